/- Plain laws of states: texts of lists, of prices and targets. -/
import Derived.Test.YtelbpfkjhndccaaGreatDoorPlSbR
namespace Go.PL
open Go
set_option maxRecDepth 100000
set_option linter.all false
set_option maxHeartbeats 1000000
def K5 (l:List Bx):Bool:=decide (1≤l.length∧l.length≤6)&&l.all NW
theorem fL {α:Type} [Inhabited α] {p:α→Bool} {l:List α} (h: ∀ j:Int,0≤j→j<l.length→p (l.getD j.toNat default)=true):l.all p=true:=by
 rw [List.all_eq_true]
 intro x hx
 obtain⟨i,hi,rfl⟩:=List.mem_iff_getElem.1 hx
 have:=h (i:Int) (by omega) (by omega)
 rwa [Int.toNat_natCast,GJ hi]at this
theorem cq {α:Type} [Inhabited α] {p:α→Bool} {l:List α} {j:Int} (h0:0≤j) (h1:j<l.length) (h:p (l.getD j.toNat default)=false):l.all p=false:=by
 rw [Bool.eq_false_iff]
 intro q
 have:=List.all_eq_true.1 q _ (TW (l:=l) (i:=j.toNat) (by omega))
 rw [h]at this
 cases this
theorem fM {l:List (List UInt8)} {sep:List UInt8} (h1:0<l.length) (h: ∀ y∈l,0<y.length):0<(Lib.join l sep).length :=by
 cases l with
 | nil=>simp at h1
 | cons a l=>
   have:=h a (by simp)
   rw [Lib.join_cons,List.length_append];omega
theorem nz {r:List UInt8} (h:0<r.length):(r==[])=false:=by cases r<;>simp at *
theorem iy (l:List Bx):W (E8 l) (fun r=>(r==[])= !K5 l):=by
 unfold E8 K5
 refine W.lt (fun b hb=>?_)
 refine W.if (fun h=>⟨_,rfl,?_⟩) (fun h=>?_)
 ·subst hb;simp only [bz]at h
  rw [decide_eq_false (by omega)];rfl
 subst hb;simp only [bz]at h
 rw [decide_eq_true (p:=1≤l.length∧l.length≤6) (by omega),Bool.true_and]
 refine W.it (fun(v:Int×List (List UInt8))=>0≤v.1∧v.1≤l.length∧v.2.length=v.1∧(∀ y∈v.2,0<y.length∧y.length≤200000)∧ ∀ j:Int,0≤j→j<v.1→NW (l.getD j.toNat default)=true) (fun v=>((l.length:Int) - v.1).toNat)
  ⟨by simp,by simp,by simp,by simp,fun j h1 h2=>by dsimp only at h2;omega⟩ (by dsimp only;omega) (fun v hv=>?_)
 obtain⟨i,t⟩:=v
 obtain⟨h1,h2,h3,h4,h5⟩:=hv
 dsimp only at h1 h2 h3 h4 h5 ⊢
 unfold HG
 have w:=BC (x:=i+1) (by omega) (by omega)
 refine W.if (fun hi=>?_) (fun hi=>W.ex ?_)
 ·have hi:=of_decide_eq_true hi
  refine W.bd (W.idx (by omega)) (fun e he=>?_)
  rw [cp]
  refine W.lt (fun b hb=>?_)
  refine W.if (fun k=>W.ex ⟨_,rfl,?_⟩) (fun k=>?_)
  ·rw [cq (p:=NW) h1 hi (by rw [←he.2.1, ←hb];simpa using k)];rfl
  have hm:NW e=true:=by rw [←hb];simpa using k
  refine W.bd (oW e) (fun r hr=>?_)
  rw [hm]at hr
  have hr1:=hr.1
  have hr2:0<r.length:=by
   have:=hr.2
   cases r
   ·cases this
   ·simp
  refine W.bd (W.app (by simp;omega) (by unfold maxLen;simp;omega)) (fun l' hl'=>?_)
  subst hl'
  refine W.nx ⟨by dsimp only;omega,by dsimp only;omega,by simp;omega,fun y hy=>?_,fun j j1 j2=>?_⟩ (by dsimp only;omega)
  ·rw [List.mem_append,List.mem_singleton]at hy
   rcases hy with hy | rfl
   ·exact h4 y hy
   ·exact⟨hr2,hr1⟩
  ·dsimp only at j2
   by_cases q:j<i
   ·exact h5 j j1 q
   ·obtain rfl:j=i:=by omega
    rw [←he.2.1];exact hm
 ·have hi:=of_decide_eq_false hi
  obtain rfl:i=l.length:=by omega
  rw [fL (p:=NW) h5]
  have jl:=T5 Fm 200000 (fun y hy=>(h4 y hy).2)
  have jl2:t.length*(200000+Fm.length)≤6*200002:=Nat.mul_le_mul (by omega) (by decide)
  have jp:=fM (sep:=Fm) (l:=t) (by omega) (fun y hy=>(h4 y hy).1)
  have jn:Hn t Fm=some (Lib.join t Fm):=by
   unfold Hn PK
   rw [if_pos ⟨by omega,by omega⟩];rfl
  show W (EW t) _
  unfold EW
  rw [jn]
  exact⟨_,rfl,nz jp⟩
theorem fN (l:List Bx):W (IZ l) (fun r=>(r==[])= !K5 l):=by
 unfold IZ K5
 refine W.lt (fun b hb=>?_)
 refine W.if (fun h=>⟨_,rfl,?_⟩) (fun h=>?_)
 ·subst hb;simp only [bz]at h
  rw [decide_eq_false (by omega)];rfl
 subst hb;simp only [bz]at h
 rw [decide_eq_true (p:=1≤l.length∧l.length≤6) (by omega),Bool.true_and]
 refine W.it (fun(v:List UInt8×Int)=>0≤v.2∧v.2≤l.length∧(v.1.length:Int)≤200010*v.2∧(0<v.2→0<v.1.length)∧ ∀ j:Int,0≤j→j<v.2→NW (l.getD j.toNat default)=true) (fun v=>((l.length:Int) - v.2).toNat)
  ⟨by simp,by simp,by simp,by simp,fun j h1 h2=>by dsimp only at h2;omega⟩ (by dsimp only;omega) (fun v hv=>?_)
 obtain⟨t,i⟩:=v
 obtain⟨h1,h2,h3,h4,h5⟩:=hv
 dsimp only at h1 h2 h3 h4 h5 ⊢
 unfold L8
 have w:=BC (x:=i+1) (by omega) (by omega)
 refine W.if (fun hi=>?_) (fun hi=>W.ex ?_)
 ·have hi:=of_decide_eq_true hi
  refine W.bd (W.idx (by omega)) (fun e he=>?_)
  rw [jD]
  refine W.lt (fun b hb=>?_)
  refine W.if (fun k=>W.ex ⟨_,rfl,?_⟩) (fun k=>?_)
  ·rw [cq (p:=NW) h1 hi (by rw [←he.2.1, ←hb];simpa using k)];rfl
  have hm:NW e=true:=by rw [←hb];simpa using k
  have J: ∀ s:List UInt8,(s.length:Int)≤200010*i+2→W (HJ l i s) (LQ (fun(v:List UInt8×Int)=>0≤v.2∧v.2≤l.length∧(v.1.length:Int)≤200010*v.2∧(0<v.2→0<v.1.length)∧ ∀ j:Int,0≤j→j<v.2→NW (l.getD j.toNat default)=true) (fun v=>((l.length:Int) - v.2).toNat) (t,i)
   (fun r=>W (Sum.elim (fun o0=>M7 o0) (fun o1=>some ([]:List UInt8)) r) (fun r=>(r==[])= !l.all NW))):=fun s hs=>by
   unfold HJ
   refine W.bd (W.idx (by omega)) (fun e' he'=>?_)
   obtain rfl:e'=e:=by rw [he.2.1,he'.2.1]
   refine W.bd (nq e') (fun r hr=>?_)
   rw [hm]at hr
   have hr1:=hr.1
   have hr2:0<r.length:=by
    have:=hr.2
    cases r
    ·cases this
    ·simp
   refine I6 10000000 (by omega) (fun s' hs'=>?_)
   refine W.nx ⟨by dsimp only;omega,by dsimp only;omega,by dsimp only;omega,fun _=>by dsimp only;omega,fun j j1 j2=>?_⟩ (by dsimp only;omega)
   dsimp only at j2
   by_cases q:j<i
   ·exact h5 j j1 q
   ·obtain rfl:j=i:=by omega
    rw [←he.2.1];exact hm
  refine W.if (fun _=>?_) (fun _=>J t (by omega))
  have:Fm.length=2:=rfl
  exact I6 10000000 (by omega) (fun s hs=>J s (by omega))
 ·have hi:=of_decide_eq_false hi
  obtain rfl:i=l.length:=by omega
  rw [fL (p:=NW) h5]
  exact⟨_,rfl,nz (h4 (by omega))⟩
theorem jE (b x y:Bool):(if b=true then some x else some y)=some (if b=true then x else y):=by cases b<;>rfl
def RX (s:C0):Bool:=(L7 s).getD false
theorem fO (s:C0):L7 s=some (RX s):=by
 have: ∃ b,L7 s=some b:=by
  unfold L7
  simp only [Option.bind_some,NV,jE]
  exact⟨_,rfl⟩
 obtain⟨b,h⟩:=this
 unfold RX;rw [h];rfl
theorem iz (s:C0):W (FG s) (fun r=>(r==[])= !RX s):=by
 have e:=fO s
 unfold L7 at e
 unfold FG
 simp only [Option.bind_some,NV,D1]at e ⊢
 cases ho:s.Object
 ·simp only [ho,Bool.not_false,if_true]at e ⊢
  injection e with e
  rw [←e]
  cases hp:s.Player
  ·exact⟨_,rfl,rfl⟩
  ·simp only [Bool.not_true,Bool.false_eq_true,if_false,if_true]
   refine W.if (fun h=>⟨_,rfl,?_⟩) (fun h=>⟨_,rfl,?_⟩)
   ·rw [Bool.not_eq_true']at h;rw [h];rfl
   ·rw [Bool.not_eq_false']at h;rw [h];rfl
 ·simp only [ho,Bool.not_true,Bool.false_eq_true,if_false]at e ⊢
  injection e with e
  rw [←e]
  have k:(if(!Lu s.Filter)=true then true else if(if(s.Filter.Zone != 0)=true then s.Filter.Zone != 3 else false)=true then s.Filter.Zone != 5 else false)= !(if Lu s.Filter=true then if(if(s.Filter.Zone==0)=true then true else s.Filter.Zone==3)=true then true else s.Filter.Zone==5 else false):=by
   simp only [bne]
   cases Lu s.Filter<;>cases (s.Filter.Zone==0)<;>cases (s.Filter.Zone==3)<;>cases (s.Filter.Zone==5)<;>rfl
  rw [k]
  refine W.if (fun h=>⟨_,rfl,?_⟩) (fun h=>?_)
  ·rw [h];rfl
  ·rw [h]
   have l1:bU.length=1:=rfl
   have l2:Wr.length=2:=rfl
   have l3:M5.length=11:=rfl
   have l4:bV.length=1:=rfl
   refine W.bd (ng _) (fun r hr=>I6 1000000 (by omega) (fun s hs=>I6 1000000 (by omega) (fun s hs=>?_)))
   refine W.if (fun _=>I6 1000000 (by omega) (fun s hs=>⟨_,rfl,nz (by omega)⟩)) (fun _=>I6 1000000 (by omega) (fun s hs=>⟨_,rfl,nz (by omega)⟩))
def JT (p:CG):Bool:=cj p.Mana&&(p.Mana.X==0&&(decide (0≤p.Life)&&decide (p.Life≤99)))
theorem iA (p:CG):Q6 p=some (JT p):=by
 unfold Q6 JT
 simp only [Option.bind_some,ck,O0,Bool.and_assoc]
theorem iB (p:CG):W (D3 p) (fun r=>(r==[])= !JT p):=by
 unfold D3
 rw [fD]
 have k:(if(if(if(!cj p.Mana)=true then true else p.Mana.X != 0)=true then true else decide (p.Life<0))=true then true else decide (99<p.Life))= !JT p:=by
  unfold JT
  simp only [QA,oo,bne,Bool.not_and,Bool.or_assoc]
 simp only [Option.bind_some,k]
 refine W.if (fun h=>⟨_,rfl,by rw [h];rfl⟩) (fun h=>?_)
 have hp:JT p=true:=by simpa using h
 rw [h]
 have l1:bX.length=1:=rfl
 have l2:bY.length=1:=rfl
 have J15: ∀ l,LB 10 l→W (Cj l) (fun r=>(r==[])=false):=fun l hl=>by
  have q:=kZ (sep:=Fm) (hl.le (m:=1000) (by omega)) (by decide)
  have h1:=hl.1
  have:l.length*(600+Fm.length)≤10*602:=Nat.mul_le_mul (by omega) (by decide)
  unfold Cj Hn
  refine W.bd (W.bd q (fun r hr=>⟨r,rfl,hr⟩)) (fun r hr=>I6 1000000 (by omega) (fun s hs=>I6 1000000 (by omega) (fun s hs=>⟨_,rfl,nz (by omega)⟩)))
 have hL:0≤p.Life∧p.Life≤99:=by
  unfold JT at hp
  simp only [Bool.and_eq_true,decide_eq_true_eq]at hp
  exact⟨hp.2.2.1,hp.2.2.2⟩
 have J7: ∀ l,LB 1 l→W (Ct p l) (fun r=>(r==[])=false):=fun l hl=>by
  unfold Ct
  refine al hl (by decide) (fun l hl=>?_)
  unfold C9
  refine al hl (by decide) (fun l hl=>?_)
  unfold CS
  have J13: ∀ l,LB 4 l→W (Ck l) (fun r=>(r==[])=false):=fun l hl=>by
   unfold Ck
   refine W.if (fun _=>J15 _ ⟨by simp,by simp [P0]⟩) (fun _=>J15 _ (hl.le (by omega)))
  refine W.if (fun _=>?_) (fun _=>J13 _ (hl.le (by omega)))
  have:Ws.length=5:=rfl
  exact W.bd (ic (by omega) (by omega)) (fun r hr=>I6 1000 (by omega) (fun s hs=>eY hl (by omega) (fun l hl=>J13 l hl)))
 refine W.if (fun _=>?_) (fun _=>J7 _ LB.nil)
 rw [cn]
 refine W.lt (fun r hr=>?_)
 exact eY (k:=0) LB.nil (by subst hr;have:=dG p.Mana;omega) (fun l hl=>J7 l hl)
end Go.PL
