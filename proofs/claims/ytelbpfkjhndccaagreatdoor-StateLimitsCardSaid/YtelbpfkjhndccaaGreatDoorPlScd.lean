/- Plain laws of states: StateLimits. -/
import Derived.Test.YtelbpfkjhndccaaGreatDoorPlScc
namespace Go.PL
open Go
set_option maxRecDepth 100000
set_option linter.all false
set_option maxHeartbeats 4000000
def ja:Au:=⟨20,0,0,⟨0,0,0,0,0,0⟩,false,false,[],[],[]⟩
def bi (m:EC) (i:Nat):Bw:={m.Item with Id:=(i:Int)+1}
def Pk (m:EC) (i:Nat):Ao:={{m.Object with Id:=(i:Int)+1}with Zone:=(4:Int)}
def mk (o:List Ao) (e:List Int) (k:List Bw) (w:List AZ) (c:List Ci) (x:List Int):Aj:=⟨[ja,ja],o,[],e,k,w,c,0,0,0,false,0,0,100000,100000,1,x,0, -1⟩
def lO (m:EC) (k:Int) (i:Nat):List Ao:=if k=3 then(List.range i).map (Pk m)else []
def lE (k:Int) (i:Nat):List Int:=if k=3 then(List.range i).map (fun j:Nat=>(j:Int)+1)else []
def lK (m:EC) (k:Int) (i:Nat):List Bw:=if k=0 then(List.range i).map (bi m)else []
def lW (m:EC) (k:Int) (i:Nat):List AZ:=if k=1 then(List.range i).map (fun _=>m.Waiting)else []
def lC (m:EC) (k:Int) (i:Nat):List Ci:=if k=4 then(List.range i).map (fun _=>m.Cont)else []
def lX (k:Int) (i:Nat):List Int:=if k=2 then(List.range i).map (fun j:Nat=>((j % 2:Nat):Int))else []
def fl (m:EC) (k:Int) (n:Nat):Aj:=mk (lO m k n) (lE k n) (lK m k n) (lW m k n) (lC m k n) (lX k n)
theorem ap {α:Type} {b:Nat} {f:Nat→α} {i:Nat} (hi:i≤5000) (hb:b≤1000) {x:α} (hx:x=f i):app b ((List.range i).map f) [x]=some ((List.range (i+1)).map f):=by
 subst hx
 have h:(i+1)*b≤5001*1000:=Nat.mul_le_mul (by omega) hb
 rw [YB ⟨by simpa using (by omega:(i+1)*b≤140737488355328),by unfold maxLen;simp;omega⟩,List.range_succ,List.map_append]
 rfl
theorem pS {i:Nat}:Int.tmod (i:Int) 2=((i % 2:Nat):Int):=by
 rw [Int.tmod_eq_emod_of_nonneg (by omega)];omega
theorem UX (m:EC) {k:Int} (hk:k=0∨k=1∨k=2∨k=3∨k=4) {n:Nat} (hn:n≤3000):Dm m k (n:Int)=some (fl m k n):=by
 have hp:Dm m k (n:Int)=EO m k (n:Int) [ja,ja]:=by kernel_rfl
 rw [hp]
 unfold EO
 refine mC (S:=fun i=>((i:Int),lO m k i,lE k i,lK m k i,lW m k i,lC m k i,lX k i)) (r:=(lO m k n,lE k n,lK m k n,lW m k n,lC m k n,lX k n)) n (by omega) (by simp [lO,lE,lK,lW,lC,lX]) (fun i hi=>?_) ?_ rfl
 ·dsimp only
  unfold Fq CB
  have w:=wrapS' (i:=i) (by omega)
  rw [if_pos (by simpa using hi)]
  rcases hk with rfl | rfl | rfl | rfl | rfl
  ·have:=ap (b:=824) (f:=bi m) (i:=i) (x:=bi m i) (by omega) (by omega) rfl
   rw [if_pos (by simp),w]
   simp only [lO,lE,lK,lW,lC,lX,if_true,show ((0:Int)=3)=False by simp,show ((0:Int)=1)=False by simp,show ((0:Int)=4)=False by simp,show ((0:Int)=2)=False by simp,if_false]
   refine(congrArg (fun o=>Option.bind o _) this).trans ?_
   rfl
  ·rw [if_neg (by simp),if_pos (by simp),w]
   simp only [lO,lE,lK,lW,lC,lX,if_true,show ((1:Int)=3)=False by simp,show ((1:Int)=0)=False by simp,show ((1:Int)=4)=False by simp,show ((1:Int)=2)=False by simp,if_false]
   rw [ap (f:=fun _=>m.Waiting) (by omega) (by omega) rfl];rfl
  ·rw [if_neg (by simp),if_neg (by simp),if_pos (by simp),w,pS]
   simp only [lO,lE,lK,lW,lC,lX,if_true,show ((2:Int)=3)=False by simp,show ((2:Int)=0)=False by simp,show ((2:Int)=4)=False by simp,show ((2:Int)=1)=False by simp,if_false]
   rw [ap (f:=fun j:Nat=>((j % 2:Nat):Int)) (by omega) (by omega) rfl];rfl
  ·have:=ap (b:=128) (f:=Pk m) (i:=i) (x:=Pk m i) (by omega) (by omega) rfl
   rw [if_neg (by simp),if_neg (by simp),if_neg (by simp),if_pos (by simp),w]
   simp only [lO,lE,lK,lW,lC,lX,if_true,show ((3:Int)=1)=False by simp,show ((3:Int)=0)=False by simp,show ((3:Int)=4)=False by simp,show ((3:Int)=2)=False by simp,if_false]
   refine(congrArg (fun o=>Option.bind o _) this).trans ?_
   simp only [Option.bind_some]
   rw [ap (f:=fun j:Nat=>(j:Int)+1) (by omega) (by omega) rfl];rfl
  ·rw [if_neg (by simp),if_neg (by simp),if_neg (by simp),if_neg (by simp),w]
   simp only [lO,lE,lK,lW,lC,lX,if_true,show ((4:Int)=1)=False by simp,show ((4:Int)=0)=False by simp,show ((4:Int)=3)=False by simp,show ((4:Int)=2)=False by simp,if_false]
   rw [ap (f:=fun _=>m.Cont) (by omega) (by omega) rfl];rfl
 ·dsimp only
  unfold Fq
  rw [if_neg (by simp)]
theorem oi {a:Int} (h: -9223372036854775808≤a∧a≤9223372036854775807):DE .i64 a:=by
 simpa [DE,Lit.wf,IntKind.min,IntKind.max,IntKind.signed,IntKind.bits] using h
theorem ma {α:Type} {b:Nat} {ok:α→Prop} {f:Nat→α} {i:Nat} (hi:i≤5000) (hb:b≤1000) (h: ∀ j,j<i→ok (f j)):OE b ok ((List.range i).map f):=by
 have h1:i*b≤5000*1000:=Nat.mul_le_mul hi hb
 refine⟨by simp;unfold reachBytes;omega,fun y hy=>?_⟩
 obtain⟨j,hj,rfl⟩:=List.mem_map.1 hy
 exact h j (List.mem_range.1 hj)
theorem dO {α:Type} {b:Nat} {ok:α→Prop} {l:List α} {p:Prop} [Decidable p] (h:OE b ok l):OE b ok (if p then l else []):=by
 by_cases q:p
 ·rw [if_pos q];exact h
 ·rw [if_neg q];exact US
theorem jb {m:EC} (hm:XW m) (k:Int) {n:Nat} (hn:n≤3000):K7 (fl m k n):=by
 obtain⟨m1,m2,m3,m4, -⟩:=hm
 have z: ∀ a:Int, -9223372036854775808≤a∧a≤9223372036854775807→DE .i64 a:=fun a h=>oi h
 have hp:L9 ja:=by
  unfold L9 ja
  exact⟨by unfold DE;rfl,by unfold DE;rfl,by unfold DE;rfl,fun y hy=>by
   have:y=0:=by simpa [A6.l] using hy
   subst this;exact z _ (by omega),trivial,trivial,US,US,US,trivial⟩
 unfold K7 fl mk
 refine⟨⟨by simp;unfold reachBytes;omega,fun y hy=>by simp at hy;subst hy;exact hp⟩,dO (ma (by omega) (by omega) fun j hj=>?_),US,dO (ma (by omega) (by omega) fun j hj=>z _ (by omega)),dO (ma (by omega) (by omega) fun j hj=>?_),dO (ma (by omega) (by omega) fun j hj=>m2),dO (ma (by omega) (by omega) fun j hj=>m3),z _ (by first | omega | (dsimp only;omega)),z _ (by first | omega | (dsimp only;omega)),z _ (by first | omega | (dsimp only;omega)),trivial,z _ (by first | omega | (dsimp only;omega)),z _ (by first | omega | (dsimp only;omega)),z _ (by first | omega | (dsimp only;omega)),z _ (by first | omega | (dsimp only;omega)),by unfold DE;rfl,dO (ma (by omega) (by omega) fun j hj=>z _ (by first | omega | (dsimp only;omega))),z _ (by first | omega | (dsimp only;omega)),z _ (by first | omega | (dsimp only;omega)),trivial⟩
 ·unfold Ma at m4
  unfold Ma Pk
  exact⟨z _ (by first | omega | (dsimp only;omega)),m4.2.1,m4.2.2.1,m4.2.2.2.1,z _ (by first | omega | (dsimp only;omega)),m4.2.2.2.2.2⟩
 ·unfold M0 at m1
  unfold M0 bi
  exact⟨z _ (by first | omega | (dsimp only;omega)),m1.2⟩
theorem pj:[ja,ja].all lI=true:=by kernel_rfl
theorem cz {α:Type} (f:α→Bool) (x:α) {n:Nat} (hn:1≤n):((List.range n).map fun _=>x).all f=f x:=by
 rw [Bool.eq_iff_iff,List.all_eq_true]
 constructor
 ·intro h;exact h x (List.mem_map.2 ⟨0,List.mem_range.2 (by omega),rfl⟩)
 ·intro h y hy
  obtain⟨j, -,rfl⟩:=List.mem_map.1 hy
  exact h
def n0 (s:Aj):Bool:=WM s
theorem ZG (nc:Int) (o:List Ao) (e:List Int) (k:List Bw) (w:List AZ) (c:List Ci) (x:List Int):
 pB nc (mk o e k w c x)=(((List.range o.length).all (Qw nc (mk o e k w c x))&&decide ((o.length:Int)≤2048))&&((e.all (DD (mk o e k w c x) 4 (-1))&&((Qv k).all (DD (mk o e k w c x) 5 (-1))&&o.all fun q=>(e++Qv k).count q.Id==1))&&(((List.range k.length).all (gp (mk o e k w c x))&&decide ((k.length:Int)≤64))&&((w.all (gq (mk o e k w c x))&&(c.all (gz (mk o e k w c x))&&(decide ((w.length:Int)≤64)&&decide ((c.length:Int)≤64))))&&((x.all fun p=>JL p 0 1)&&decide ((x.length:Int)≤500)))))):=by
 have h1:iU (mk o e k w c x)=true:=by kernel_rfl
 have h2:WM (mk o e k w c x)=decide ((x.length:Int)≤500):=by
  unfold WM mk
  simp [JL]
 have h3:JU (mk o e k w c x)=e++Qv k:=by
  unfold JU mk ZE
  simp [NY,ja]
 unfold pB lJ lL lM iZ
 rw [h1,h2,h3]
 unfold mk
 simp only [pj,List.all_nil,Bool.true_and]
 rfl
end Go.PL
