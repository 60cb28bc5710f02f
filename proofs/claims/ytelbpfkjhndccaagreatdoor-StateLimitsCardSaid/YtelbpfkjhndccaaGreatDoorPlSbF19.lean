/- Functions of the program, as partial functions in Lean, with proofs. -/
import Derived.Test.YtelbpfkjhndccaaGreatDoorPlSbB
import Derived.Test.YtelbpfkjhndccaaGreatDoorPlSbF0
import Derived.Test.YtelbpfkjhndccaaGreatDoorPlSbF10
import Derived.Test.YtelbpfkjhndccaaGreatDoorPlSbF13
import Derived.Test.YtelbpfkjhndccaaGreatDoorPlSbF17
import Derived.Test.YtelbpfkjhndccaaGreatDoorPlSbF18
import Derived.Test.YtelbpfkjhndccaaGreatDoorPlSbF2
import Derived.Test.YtelbpfkjhndccaaGreatDoorPlSbF3
import Derived.Test.YtelbpfkjhndccaaGreatDoorPlSbF4
namespace Go.PL
open Go Go.RowKit Go.Proofs
set_option maxRecDepth 100000
set_option linter.all false
set_option maxHeartbeats 4000000
attribute [local irreducible] Ai B4 BL
def GM (a0:List (HW)) (a1:EC) (a2:Int):Option (Bool):=
 (gd ((decide (40<(a0.length:Int)))==false) (Dm a1 (Int.tmod (Ab (a2)) (5:Int)) (1:Int))).bind fun r1=>
 (gd ((decide (40<(a0.length:Int)))==false) (JJ a0 r1)).bind fun r2=>
 (some (if(decide (40<(a0.length:Int)))=true then true else !r2)).bind fun b3=>
 (if b3=true then
  (JK).bind fun r5=>
  some r5
 else
  (idx (⟨64,64,500,2048,64⟩:A5 (Int)).l (Int.tmod (Ab (a2)) (5:Int))).bind fun e6=>
  (Dm a1 (Int.tmod (Ab (a2)) (5:Int)) (1:Int)).bind fun r7=>
  (Hd a0 r7).bind fun r8=>
  (Dm a1 (Int.tmod (Ab (a2)) (5:Int)) e6).bind fun r9=>
  (Hd a0 r9).bind fun r10=>
  (gd ((r10==r8)==true) (Dm a1 (Int.tmod (Ab (a2)) (5:Int)) (Ab (e6+1)))).bind fun r11=>
  (gd ((r10==r8)==true) (Hd a0 r11)).bind fun r12=>
  (some (if(r10==r8)=true then !r12 else false)).bind fun b13=>
  (some (if((Int.tmod (Ab (a2)) (5:Int)) != (2:Int))=true then true else r8)).bind fun b14=>
  (some (if b13=true then b14 else false)).bind fun b15=>
  (gd (b15==true) (JK)).bind fun r16=>
  (some (if b15=true then r16 else false)).bind fun b17=>
  some b17)
def Ou (a0:List (HW)) (a1:EC) (a2:Int) (r:Bool):Prop:=Ah Tryz.prog I0 4 [vL JD a0,vA Eg a1, .c (.int .u8 a2)] (· =vB r)
theorem NU {a0:List (HW)} {a1:EC} {a2:Int} {r:Bool} (h:GM a0 a1 a2=some r):Ou a0 a1 a2 r:=by
 refine Ah.bo Ag Tryz.func4 rfl Tryz.ntmps4 [.tmp 6] fun _ _ _ _=>?_
 unfold GM at h
 refine Gg [.a,.a] (uo [1] [(4,vP [4] (0))] [.e (bx [4] (Eg a1))]) (aN)<|Gg (nA 4) (u [2] [(7,vI (Int.tmod (Ab (a2)) (5:Int)))]) (aC (show (5:Int) ≠ 0 from(by decide))<|aN)<|hS ?_
 obtain⟨r1,k1,r2,m1,b3,j1,h⟩:=M9 h
 refine Gg [.a,.a,.a,.a,.a,.a,.a,(.c (vA Am r1)),(.c (vB r2)),.a,(.v (vB b3))] (u [] [(23,vB b3)]) (aC (c2 k1 Ig)<|aC (c2 m1 Uz)<|aG ((decide (40<(a0.length:Int)))==false)<|aF (decide (40<(a0.length:Int)))<|aB j1<|aN)<|iC h (fun h=>?_) (fun h=>?_)
 ·obtain⟨r5,n1,h⟩:=bS h
  exact Rg [(.c (vB r5)),.a] (sl 61 [(6,vB r5)] []) (aC (NT n1)<|aN)<|hR<|Tr<|bQ _ (kB h)
 refine hK<|Tn ?_
 obtain⟨e6,n0,h⟩:=bS h
 refine Gg [.a,.a,(.v (vI e6)),.a] (u [23] [(8,vI e6)]) (aC (And.intro (show True∧(True∧(True∧(True∧(True∧True))))from⟨trivial,⟨trivial,⟨trivial,⟨trivial,⟨trivial,trivial⟩⟩⟩⟩⟩) mV)<|aC (show (0≤(Int.tmod (Ab (a2)) (5:Int))∧(Int.tmod (Ab (a2)) (5:Int))<((5:Nat):Int))∧(Int.tmod (Ab (a2)) (5:Int)).toNat *1+1≤(dW (eI .i64) (⟨64,64,500,2048,64⟩:A5 (Int))).length ∧Me false ((Int.tmod (Ab (a2)) (5:Int)).toNat *1) 1 (dW (eI .i64) (⟨64,64,500,2048,64⟩:A5 (Int)))=vI e6 from⟨Bm n0,I5 (e:=eI .i64) (N:=1) (l:=(⟨64,64,500,2048,64⟩:A5 (Int)).l) (base:=0) (pre:=[]) (post:=[]) (by kernel_rfl) rfl n0 (I1 .i64) (o:=0) (by simp) (by decide) (by decide) (by kernel_rfl)⟩)<|aC (Eq.refl (vI e6))<|aN) ?_
 obtain⟨r7,o1,r8,p1,h⟩:=JX h
 refine Gg [.a,.a,.a,(.c (vA Am r7)),(.c (vB r8)),.a] (u [] [(9,vB r8)]) (aC (Ig o1)<|aC (Lt p1)<|aN) ?_
 obtain⟨r9,q1,j0,x0,t1,y0,x1,z0,h⟩:=Ij h
 obtain⟨i0,o0,i1,p0,k0,q0,y1,d1,h⟩:=Ij h
 obtain⟨m0,t0,h⟩:=bS h
 exact Rg [.a,.a,.a,.a,(.c (vA Am r9)),(.c (vB j0)),.a,.a,.a,.a,.a,.a,.a,.a,(.c (vA Am t1)),(.c (vB x1)),.a,(.v (vB i0)),.a,.a,.a,.a,.a,(.v (vB i1)),(.v (vB k0)),.a,(.c (vB y1)),(.v (vB m0)),.a] (sl 61 [(6,vB m0)] []) (aC (Ig q1)<|aC (Lt x0)<|aC Xm<|aG ((j0==r8)==true)<|aC (c3 y0 Ig)<|aC (c2 z0 Lt)<|aG ((j0==r8)==true)<|aT (j0==r8)<|aB o0<|aG (i0==true)<|aG (i0==true)<|aC (fun hg:(i0==true)=true=>aC (gi (i0==true))<|aC (fun q:((Int.tmod (Ab (a2)) (5:Int)) != (2:Int))=false=>(gA hg (gF q)))<|aB p0<|aN)<|aT i0<|aB q0<|aC (c0 d1 NT)<|aT k0<|aB t0<|aN)<|hR<|bQ _ (kB h)
end Go.PL
