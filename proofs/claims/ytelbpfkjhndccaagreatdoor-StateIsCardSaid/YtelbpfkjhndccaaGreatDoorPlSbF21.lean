/- Functions of the program, as partial functions in Lean, with proofs. -/
import Derived.Test.YtelbpfkjhndccaaGreatDoorPlSbB
import Derived.Test.YtelbpfkjhndccaaGreatDoorPlSbF10
import Derived.Test.YtelbpfkjhndccaaGreatDoorPlSbF17
import Derived.Test.YtelbpfkjhndccaaGreatDoorPlSbF18
import Derived.Test.YtelbpfkjhndccaaGreatDoorPlSbF20
namespace Go.PL
open Go Go.RowKit Go.Proofs
set_option maxRecDepth 100000
set_option linter.all false
set_option maxHeartbeats 4000000
attribute [local irreducible] Ak Ca BP
def Ly (a0:List (E1)) (a1:Ai):Option (Bool):=
 (LX a0 a1).bind fun r1=>
 (if(!r1)=true then
  (L0).bind fun r3=>
  some r3
 else
  (O1 a0 a1).bind fun r4=>
  (W1 a0 a1).bind fun r5=>
  (gd ((r4==r5)==true) (L0)).bind fun r6=>
  (some (if(r4==r5)=true then r6 else false)).bind fun b7=>
  some b7)
def Ve (a0:List (E1)) (a1:Ai) (r:Bool):Prop:=Af Tryz.prog I0 3 [vL G9 a0,vA Aj a1] (· =vB r)
theorem T4 {a0:List (E1)} {a1:Ai} {r:Bool} (h:Ly a0 a1=some r):Ve a0 a1 r:=by
 refine Af.bo Ae Tryz.func3 rfl Tryz.ntmps3 [.tmp 4] fun _ _ _ _=>?_
 unfold Ly at h
 refine Gg [.a,.a] (uo [1] [(3,vP [3] (0))] [.e (bx [3] (Aj a1))]) (aN)<|hS ?_
 obtain⟨r1,j0,h⟩:=bS h
 refine Gg [.a,.a,(.c (vB r1)),.a] (u [] [(8,vB (!r1))]) (aC (WT j0)<|aN)<|iC h (fun h=>?_) (fun h=>?_)
 ·obtain⟨r3,k0,h⟩:=bS h
  exact Rg [(.c (vB r3)),.a] (sl 20 [(4,vB r3)] []) (aC (QL k0)<|aN)<|hR<|Tr<|bQ _ (kB h)
 refine hK<|Tn ?_
 obtain⟨r4,m0,r5,n0,r6,o0,b7,i0,h⟩:=D2 h
 exact Rq BF [.a,.a,(.c (vB r4)),.a,.a,(.c (vB r5)),.a,.a,(.c (vB r6)),(.v (vB b7)),.a] (sl 20 [(4,vB b7)] []) (aC (UC m0)<|aC (jN n0)<|aC Wo<|aC (c0 o0 QL)<|aT (r4==r5)<|aB i0<|aN)<|hR<|bQ _ (kB h)
end Go.PL
