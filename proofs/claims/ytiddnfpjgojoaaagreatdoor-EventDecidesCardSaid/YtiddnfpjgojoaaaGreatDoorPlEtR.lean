/- The order of forces that need each other: there is always one that is ready. -/
import Derived.Test.YtiddnfpjgojoaaaGreatDoorPlZtoTf
import Derived.Test.YtiddnfpjgojoaaaGreatDoorPlZtoTf
import Derived.Test.YtiddnfpjgojoaaaGreatDoorPlEdX
namespace Go.PL
open Go
set_option maxRecDepth 100000
set_option linter.all false
set_option maxHeartbeats 2000000
theorem FW {α:Type} [Inhabited α] {l:List α} {v:Int} (h0:0≤v) (h:v<l.length):l.take (v+1).toNat =l.take v.toNat++[l.getD v.toNat default]:=by
 rw [show (v+1).toNat =v.toNat+1 by omega,List.take_succ,List.getD_eq_getElem?_getD,List.getElem?_eq_getElem (by omega)];rfl
theorem Du {α:Type} {l:List α} {v:Int} (h: ¬v<l.length):l.take v.toNat=l:=List.take_of_length_le (by omega)
theorem Yj {l:List Int} {v:Int} (hn:l.Nodup) (h0:0≤v) (h:v<l.length):l.getD v.toNat default∉l.take v.toNat:=by
 have h1:(l.take (v+1).toNat).Nodup :=List.Nodup.sublist (List.take_sublist _ _) hn
 rw [FW h0 h,List.nodup_append]at h1
 intro hm
 exact h1.2.2 _ hm _ (by simp) rfl
theorem sk {l:List Int} {i j:Int} (hn:l.Nodup) (hi:0≤i∧i<l.length) (hj:0≤j∧j<l.length) (h:i ≠ j):l.getD i.toNat default ≠ l.getD j.toNat default:=by
 have key: ∀ {i j:Int},0≤i→i<j→j<l.length→l.getD i.toNat default ≠ l.getD j.toNat default:=by
  intro i j h1 h2 h3 he
  refine Yj hn (v:=j) (by omega) h3 ?_
  rw [←he,List.getD_eq_getElem?_getD,List.getElem?_eq_getElem (by omega)]
  exact List.mem_take_iff_getElem.2 ⟨i.toNat,by omega,rfl⟩
 rcases Int.lt_or_gt_of_ne h with q | q
 ·exact key hi.1 q hj.2
 ·exact fun e=>key hj.1 q hi.2 e.symm
theorem Kt: ∀ {l m:List Int},l.Nodup→(∀ x∈l,x∈m)→l.length≤m.length
 | [],_,_,_=>by simp
 | a::l,m,hn,hs=>by
   have h1:=List.nodup_cons.1 hn
   have ha:=hs a (by simp)
   have:=Kt (l:=l) (m:=m.erase a) h1.2 (fun x hx=>by
    have hxa:x ≠ a:=fun e=>h1.1 (e▸hx)
    exact(List.mem_erase_of_ne hxa).2 (hs x (by simp [hx])))
   rw [List.length_erase_of_mem ha]at this
   have:0<m.length:=List.length_pos_of_mem ha
   simp;omega
theorem SX {l:List Int} {x:Int} (hl:l.length≤140737488355328):W (K1 l x) (fun r=>r=decide (x∈l)):=by
 unfold K1
 simp only [jn]
 refine W.it (fun(v:Int)=>0≤v∧v≤l.length∧x∉l.take v.toNat) (fun v=>((l.length:Int) - v).toNat) ⟨by omega,by omega,by simp⟩ (by omega) (fun v hv=>?_)
 obtain⟨v1,v2,v3⟩:=hv
 unfold XP
 have w:=Af (x:=v+1) (by omega) (by omega)
 refine W.if (fun hi=>?_) (fun hi=>?_)
 ·simp only [bz]at hi
  refine W.bd (W.idx (by omega)) (fun e q=>?_)
  refine W.if (fun h=>?_) (fun h=>?_)
  ·simp only [bz]at h
   refine W.ex (W.rt ?_)
   rw [←h];simp [q.1]
  ·simp only [bz]at h
   refine W.nx ⟨by omega,by omega,?_⟩ (by omega)
   rw [w,FW v1 hi, ←q.2.1]
   simp only [List.mem_append,List.mem_singleton,not_or]
   exact⟨v3,fun k=>h k.symm⟩
 ·simp only [bz]at hi
  refine W.ex (W.rt ?_)
  rw [Du hi]at v3
  simp [v3]
def sn (rel:List (List Bool)) (i j:Int):Bool:=(GD rel i j).getD false
theorem W.get {α:Type} {o:Option α} {Q:α→Prop} {d:α} (h:W o Q):W o (fun r=>r=o.getD d∧Q r):=by
 obtain⟨r,rfl,h⟩:=h
 exact⟨r,rfl,rfl,h⟩
theorem PH {rel:List (List Bool)} {i j:Int} (hi:0≤i) (hj:0≤j):W (GD rel i j) (fun r=>r=sn rel i j):=by
 refine W.imp (W.get (Q:=fun _=>True) (d:=false) ?_) (fun _ h=>h.1)
 unfold GD
 refine W.gb (fun g=>by simp only [bz]at g;exact W.idx (by omega)) (fun e1 q1=>?_)
 refine W.lt (fun b2 h2=>?_)
 refine W.gb (fun g=>by simp only [h2,bz]at g;exact W.idx (by omega)) (fun e3 q3=>?_)
 refine W.gb (P:=fun _=>True) (fun g=>?_) (fun e4 q4=>?_)
 ·have k3:=(q3 g).2.1
  simp only [h2,bz]at g
  have k1:=(q1 (by simp only [bz];exact g.1)).2.1
  rw [k3, ←k1]
  exact W.imp (W.idx (by omega)) (fun _ _=>trivial)
 ·exact W.lt (fun b5 h5=>W.rt trivial)
theorem Nk {l:List Int} {i:Int} (h:0≤i):W (Hu l i) (fun _=>True):=by
 unfold Hu
 refine W.if (fun g=>?_) (fun _=>W.rt trivial)
 simp only [bz]at g
 exact W.bd (W.idx (by omega)) (fun e _=>W.rt trivial)
theorem Yk {l:List Int} (hl:l.length*8≤140737488355328):W (Fg l) (fun r=>r.Nodup∧(∀ x,x∈r↔x∈l∧0≤x)∧r.length≤l.length):=by
 unfold Fg
 simp only [jn]
 unfold LO
 refine W.it (fun(v:Int×List Int)=>0≤v.1∧v.1≤l.length∧v.2.Nodup∧(∀ x,x∈v.2↔x∈l.take v.1.toNat∧0≤x)∧v.2.length≤v.1) (fun v=>((l.length:Int) - v.1).toNat) ⟨by simp,by simp,by simp,by simp,by simp⟩ (by simp;omega) (fun v hv=>?_)
 obtain⟨k,out⟩:=v
 simp only at hv
 obtain⟨v1,v2,v3,v4,v5⟩:=hv
 show W (GP l k out) _
 unfold GP
 simp only [jn]
 unfold Kl
 have w:=Af (x:=k+1) (by omega) (by omega)
 refine W.if (fun hi=>?_) (fun hi=>?_)
 ·simp only [bz]at hi
  have ht:=FW v1 hi
  refine W.bd (W.idx (by omega)) (fun e13 q13=>?_)
  refine W.gb (fun _=>W.idx (by omega)) (fun e14 q14=>?_)
  refine W.gb (fun _=>SX (by omega)) (fun r15 q15=>?_)
  refine W.lt (fun b16 h16=>?_)
  refine W.if (fun hb=>?_) (fun hb=>?_)
  ·simp only [h16,bz]at hb
   have k14:=(q14 (by simp only [bz];exact hb.1)).2.1
   have k15:=q15 (by simp only [bz];exact hb.1)
   rw [hb.2,k14, ←q13.2.1]at k15
   refine W.re q13.2.2 ?_
   have hne:e13∉out:=by simpa using k15
   refine W.bd (W.app (by simp;omega) (by unfold maxLen;simp;omega)) (fun l19 q19=>?_)
   refine W.nx ⟨?_,?_,?_,?_,?_⟩ ?_
   ·dsimp only;omega
   ·dsimp only;omega
   ·simp only [q19,List.nodup_append]
    exact⟨v3,by simp,fun a ha b hb=>by simp at hb;subst hb;exact fun e=>hne (e▸ha)⟩
   ·intro x
    simp only [q19,w,ht,List.mem_append,List.mem_singleton,v4, ←q13.2.1]
    constructor
    ·rintro(⟨h1,h2⟩ | rfl)
     ·exact⟨.inl h1,h2⟩
     ·exact⟨.inr rfl,hb.1⟩
    ·rintro⟨h1 | h1,h2⟩
     ·exact .inl ⟨h1,h2⟩
     ·exact .inr h1
   ·simp only [q19,w];simp;omega
   ·dsimp only;omega
  ·simp only [h16,bz]at hb
   refine W.nx ⟨?_,?_,v3,?_,?_⟩ ?_
   ·dsimp only;omega
   ·dsimp only;omega
   ·intro x
    simp only [w,ht,List.mem_append,List.mem_singleton,v4, ←q13.2.1]
    constructor
    ·rintro⟨h1,h2⟩;exact⟨.inl h1,h2⟩
    ·rintro⟨h1 | rfl,h2⟩
     ·exact⟨h1,h2⟩
     ·rcases hb with hb | hb
      ·exact absurd h2 hb
      ·have k14:=(q14 (by simp only [bz];exact h2)).2.1
       have k15:=q15 (by simp only [bz];exact h2)
       rw [hb,k14, ←q13.2.1]at k15
       have:x∈out:=by simpa using k15
       exact(v4 x).1 this
   ·dsimp only;omega
   ·dsimp only;omega
 ·simp only [bz]at hi
  rw [Du hi]at v4
  exact W.ex (W.rt ⟨v3,v4,by omega⟩)
def RI (l:List Int) (rel:List (List Bool)) (i:Int) (out:List Int):Prop:=out.Nodup∧(∀ x∈out,x∈l)∧ ∀ S:Int→Prop,(∀ x,(x=i∨S x)→ ∀ y∈l,sn rel x y=true→S y)→ ∀ x∈out,S x
theorem RI.add {l:List Int} {rel:List (List Bool)} {i x e:Int} {out:List Int} (h:RI l rel i out) (hx:x=i∨x∈out) (he:e∈l) (hn:sn rel x e=true) (hne:e∉out):RI l rel i (out++[e]):=by
 obtain⟨h1,h2,h3⟩:=h
 refine⟨?_,?_,?_⟩
 ·rw [List.nodup_append]
  exact⟨h1,by simp,fun a ha b hb=>by simp at hb;subst hb;exact fun e=>hne (e▸ha)⟩
 ·intro y hy
  rcases List.mem_append.1 hy with q | q
  ·exact h2 y q
  ·simp at q;exact q▸he
 ·intro S hS y hy
  rcases List.mem_append.1 hy with q | q
  ·exact h3 S hS y q
  ·simp at q;subst q
   exact hS x (hx.imp id (h3 S hS x)) y he hn
theorem sq {l m:List Int} {v:Int} (h:v.toNat<l.length):(l++m).getD v.toNat default=l.getD v.toNat default:=by
 rw [List.getD_eq_getElem?_getD,List.getD_eq_getElem?_getD,List.getElem?_append_left h]
theorem JI {l:List Int} {rel:List (List Bool)} {i:Int} (hn:l.Nodup) (h0: ∀ y∈l,0≤y) (hi0:0≤i) (hl:l.length*8≤140737488355328):
 W (DZ l rel i) (fun r=>(∀ x,(x=i∨x∈r)→ ∀ y∈l,sn rel x y=true→y∈r)∧(∀ S:Int→Prop,(∀ x,(x=i∨S x)→ ∀ y∈l,sn rel x y=true→S y)→ ∀ x∈r,S x)∧r.length≤l.length):=by
 unfold DZ
 simp only [jn]
 refine W.it (fun(v:Int×List Int)=>0≤v.1∧v.1≤l.length∧RI l rel i v.2∧(∀ x∈v.2,x∈l.take v.1.toNat)∧ ∀ y∈l.take v.1.toNat,sn rel i y=true→y∈v.2) (fun v=>((l.length:Int) - v.1).toNat) ⟨by simp,by simp,⟨by simp,by simp,by simp⟩,by simp,by simp⟩ (by simp;omega) (fun v hv=>?_)
 obtain⟨k,out⟩:=v
 simp only at hv
 obtain⟨v1,v2,v3,v4,v5⟩:=hv
 show W (GS l rel i k out) _
 unfold GS
 simp only [jn]
 unfold LS
 have w:=Af (x:=k+1) (by omega) (by omega)
 refine W.if (fun hi=>?_) (fun hi=>?_)
 ·simp only [bz]at hi
  have ht:=FW v1 hi
  have hnt:=Yj hn v1 hi
  refine W.bd (W.idx (by omega)) (fun e q=>?_)
  rw [←q.2.1]at ht hnt
  refine W.bd (PH hi0 (h0 e q.1)) (fun r46 q46=>?_)
  refine W.if (fun hb=>?_) (fun hb=>?_)
  ·refine W.re q.2.2 ?_
   have hne:e∉out:=fun h=>hnt (v4 e h)
   have hR:=v3.add (.inl rfl) q.1 (q46▸hb) hne
   have hlen:=Kt hR.1 hR.2.1
   simp only [List.length_append,List.length_singleton]at hlen
   refine W.bd (W.app (by simp;omega) (by unfold maxLen;simp;omega)) (fun l49 q49=>?_)
   refine W.nx ⟨by dsimp only;omega,by dsimp only;omega,?_,?_,?_⟩ (by dsimp only;omega)
   ·dsimp only;rw [q49];exact v3.add (.inl rfl) q.1 (q46▸hb) hne
   ·simp only [q49,w,ht,List.mem_append,List.mem_singleton]
    exact fun x hx=>hx.imp (v4 x) id
   ·simp only [q49,w,ht,List.mem_append,List.mem_singleton]
    exact fun y hy hny=>hy.imp (fun h=>v5 y h hny) id
  ·refine W.nx ⟨by dsimp only;omega,by dsimp only;omega,v3,?_,?_⟩ (by dsimp only;omega)
   ·simp only [w,ht,List.mem_append,List.mem_singleton]
    exact fun x hx=> .inl (v4 x hx)
   ·simp only [w,ht,List.mem_append,List.mem_singleton]
    rintro y (hy | rfl) hny
    ·exact v5 y hy hny
    ·rw [q46,hny]at hb;cases hb
 ·simp only [bz]at hi
  rw [Du hi]at v5
  refine W.ex ?_
  clear v4 w hi v1 v2 k
  have v3':=v3
  have v5':=v5
  clear v3 v5
  revert out
  intro out v3 v5
  unfold MZ
  simp only [jn]
  unfold MY
  refine W.it (fun(v:Int×List Int)=>0≤v.1∧v.1≤v.2.length∧RI l rel i v.2∧(∀ y∈l,sn rel i y=true→y∈v.2)∧ ∀ x∈v.2.take v.1.toNat, ∀ y∈l,sn rel x y=true→y∈v.2) (fun v=>((l.length:Int) - v.1).toNat) ⟨by simp,by simp,v3,v5,by simp⟩ (by simp;omega) (fun v hv=>?_)
  obtain⟨n,out⟩:=v
  simp only at hv
  obtain⟨v1,v2,v3,v4,v5⟩:=hv
  show W (GR l rel n out) _
  unfold GR
  simp only [jn]
  unfold LP
  have hlen:=Kt v3.1 v3.2.1
  have w:=Af (x:=n+1) (by omega) (by omega)
  refine W.if (fun hi=>?_) (fun hi=>?_)
  ·simp only [bz]at hi
   have hxm:out.getD n.toNat default∈out:=Qd (by omega)
   refine W.it (fun(v:Int×List Int)=>0≤v.1∧v.1≤l.length∧RI l rel i v.2∧(∃ t,v.2=out++t)∧ ∀ y∈l.take v.1.toNat,sn rel (out.getD n.toNat default) y=true→y∈v.2) (fun v=>((l.length:Int) - v.1).toNat) ⟨by simp,by simp,v3,⟨[],by simp⟩,by simp⟩ (by simp;omega) (fun u hu=>?_)
   obtain⟨k,o2⟩:=u
   simp only at hu
   obtain⟨u1,u2,u3,⟨t,u4⟩,u5⟩:=hu
   show W (GQ l rel n k o2) _
   unfold GQ
   simp only [jn]
   unfold LR
   have hlen2:=Kt u3.1 u3.2.1
   have w2:=Af (x:=k+1) (by omega) (by omega)
   have hge:out.length≤o2.length:=by rw [u4];simp
   refine W.if (fun hj=>?_) (fun hj=>?_)
   ·simp only [bz]at hj
    have ht:=FW u1 hj
    refine W.bd (W.idx (by omega)) (fun e25 q25=>?_)
    have k25:e25=out.getD n.toNat default:=by rw [q25.2.1,u4];exact sq (by omega)
    refine W.re q25.2.2 ?_
    refine W.bd (W.idx (by omega)) (fun e q=>?_)
    rw [←q.2.1]at ht
    have hx:e25∈out:=k25▸hxm
    rw [←k25]at u5
    refine W.bd (PH (h0 _ (v3.2.1 _ hx)) (h0 e q.1)) (fun r28 q28=>?_)
    refine W.gb (fun _=>W.idx (by omega)) (fun e29 q29=>?_)
    refine W.gb (fun _=>SX (by omega)) (fun r30 q30=>?_)
    refine W.lt (fun b31 h31=>?_)
    refine W.if (fun hb=>?_) (fun hb=>?_)
    ·simp only [h31,bz]at hb
     have k29:=(q29 (by simp only [bz];exact hb.1)).2.1
     have k30:=q30 (by simp only [bz];exact hb.1)
     rw [hb.2,k29, ←q.2.1]at k30
     have hne:e∉o2:=by simpa using k30
     refine W.re q.2.2 ?_
     have hR:=u3.add (.inr (by rw [u4];simp [hx])) q.1 (q28▸hb.1) hne
     have hlen3:=Kt hR.1 hR.2.1
     simp only [List.length_append,List.length_singleton]at hlen3
     refine W.bd (W.app (by simp;omega) (by unfold maxLen;simp;omega)) (fun l34 q34=>?_)
     refine W.nx ⟨by dsimp only;omega,by dsimp only;omega,?_,⟨t++[e],by simp only [q34,u4];simp⟩,?_⟩ (by dsimp only;omega)
     ·dsimp only;rw [q34];exact u3.add (.inr (by rw [u4];simp [hx])) q.1 (q28▸hb.1) hne
     ·simp only [q34,w2,ht, ←k25,List.mem_append,List.mem_singleton]
      exact fun y hy hny=>hy.imp (fun h=>u5 y h hny) id
    ·simp only [h31,bz]at hb
     refine W.nx ⟨by dsimp only;omega,by dsimp only;omega,u3,⟨t,u4⟩,?_⟩ (by dsimp only;omega)
     simp only [w2,ht, ←k25,List.mem_append,List.mem_singleton]
     rintro y (hy | rfl) hny
     ·exact u5 y hy hny
     ·rw [q28,hny]at hb
      rcases hb with hb | hb
      ·cases hb
      ·have k29:=(q29 (by rw [q28,hny];rfl)).2.1
       have k30:=q30 (by rw [q28,hny];rfl)
       rw [hb,k29, ←q.2.1]at k30
       simpa using k30
   ·simp only [bz]at hj
    rw [Du hj]at u5
    refine W.ex ?_
    refine W.nx ⟨by dsimp only;omega,by dsimp only;omega,u3,?_,?_⟩ (by dsimp only;omega)
    ·dsimp only;rw [u4];exact fun y hy hny=>List.mem_append.2 (.inl (v4 y hy hny))
    ·dsimp only
     have htk:o2.take (Ac (n+1)).toNat =out.take n.toNat++[out.getD n.toNat default]:=by
      rw [u4,w,List.take_append_of_le_length (by omega),FW v1 hi]
     rw [htk]
     intro x hx y hy hny
     rcases List.mem_append.1 hx with q | q
     ·rw [u4];exact List.mem_append.2 (.inl (v5 x q y hy hny))
     ·simp only [List.mem_singleton]at q;subst q;exact u5 y hy hny
  ·simp only [bz]at hi
   rw [Du hi]at v5
   refine W.ex (W.rt ⟨?_,v3.2.2,hlen⟩)
   rintro x (rfl | hx) y hy hny
   ·exact v4 y hy hny
   ·exact v5 x hx y hy hny
def yI (l:List Int) (rel:List (List Bool)) (i:Int):List Int:=(DZ l rel i).getD []
def vn (l:List Int) (rel:List (List Bool)) (k:Int):Prop:= ∀ n∈l,n ≠ k→sn rel k n=true→k∈yI l rel n
theorem iU {left:List Int} {rel:List (List Bool)} (hl:left.length*8≤140737488355328):
 W (Hv left rel) (fun r=>(∀ x∈r,x∈left∧0≤x)∧r.length≤left.length∧((∃ x∈left,0≤x)→r ≠ [])):=by
 unfold Hv
 refine W.bd (Yk hl) (fun l ql=>?_)
 obtain⟨hn,hm,hle⟩:=ql
 have h0: ∀ y∈l,0≤y:=fun y hy=>((hm y).1 hy).2
 have BA: ∀ {i:Int},0≤i→W (DZ l rel i) _:=fun hi=>W.get (d:=[]) (JI hn h0 hi (rel:=rel) (by omega))
 refine W.it (fun(v:Int×List Int)=>0≤v.1∧v.1≤l.length∧(∀ x∈v.2,x∈l)∧v.2.length≤v.1∧ ∀ y∈l.take v.1.toNat,vn l rel y→y∈v.2) (fun v=>((l.length:Int) - v.1).toNat) ⟨by simp,by simp,by simp,by simp,by simp⟩ (by simp;omega) (fun v hv=>?_)
 obtain⟨k,out⟩:=v
 simp only at hv
 obtain⟨v1,v2,v3,v4,v5⟩:=hv
 show W (Fh rel l k out) _
 unfold Fh
 have w:=Af (x:=k+1) (by omega) (by omega)
 refine W.if (fun hi=>?_) (fun hi=>?_)
 ·simp only [bz]at hi
  have ht:=FW v1 hi
  have hkm:l.getD k.toNat default∈l:=Qd (by omega)
  refine W.it (fun(v:Bool×Int)=>0≤v.2∧v.2≤l.length∧(vn l rel (l.getD k.toNat default)→v.1=true)) (fun v=>((l.length:Int) - v.2).toNat) ⟨by simp,by simp,by simp⟩ (by simp;omega) (fun u hu=>?_)
  obtain⟨ok,n⟩:=u
  simp only at hu
  obtain⟨u1,u2,u3⟩:=hu
  show W (Eu rel l k ok n) _
  unfold Eu
  have w2:=Af (x:=n+1) (by omega) (by omega)
  refine W.if (fun hj=>?_) (fun hj=>?_)
  ·simp only [bz]at hj
   refine W.gb (fun _=>W.idx (by omega)) (fun e27 q27=>?_)
   refine W.gb (fun _=>W.idx (by omega)) (fun e28 q28=>?_)
   refine W.gb (fun g=>PH (h0 _ (q27 g).1) (h0 _ (q28 g).1)) (fun r29 q29=>?_)
   refine W.lt (fun b30 h30=>?_)
   refine W.gb (fun _=>W.idx (by omega)) (fun e31 q31=>?_)
   refine W.gb (fun g=>BA (h0 _ (q31 g).1)) (fun r32 q32=>?_)
   refine W.gb (fun _=>W.idx (by omega)) (fun e33 q33=>?_)
   refine W.gb (fun g=>SX (by have:=(q32 g).2.2.2;omega)) (fun r34 q34=>?_)
   refine W.lt (fun b35 h35=>?_)
   unfold DB
   refine W.if (fun hb=>?_) (fun hb=>?_)
   ·simp only [h35,bz]at hb
    obtain⟨hb1,hb2⟩:=hb
    have g30:(b30==true)=true:=by simp only [bz];exact hb1
    have k34:=q34 g30
    rw [hb2,(q33 g30).2.1,(q32 g30).1,(q31 g30).2.1]at k34
    rw [h30]at hb1
    simp only [bz]at hb1
    have g27:((n != k)==true)=true:=by simp only [bz];exact hb1.1
    have k29:=q29 g27
    rw [hb1.2,(q27 g27).2.1,(q28 g27).2.1]at k29
    refine W.nx ⟨by dsimp only;omega,by dsimp only;omega,fun hg=>?_⟩ (by dsimp only;omega)
    have:=hg (l.getD n.toNat default) (Qd (by omega)) (sk hn ⟨by omega,by omega⟩ ⟨by omega,by omega⟩ hb1.1) k29.symm
    exact absurd this (of_decide_eq_false k34.symm)
   ·exact W.nx ⟨by dsimp only;omega,by dsimp only;omega,u3⟩ (by dsimp only;omega)
  ·refine W.ex ?_
   unfold Et DA
   refine W.if (fun hok=>?_) (fun hok=>?_)
   ·refine W.bd (W.idx (by omega)) (fun e16 q16=>?_)
    refine W.bd (W.app (by simp;omega) (by unfold maxLen;simp;omega)) (fun l17 q17=>?_)
    refine W.nx ⟨by dsimp only;omega,by dsimp only;omega,?_,?_,?_⟩ (by dsimp only;omega)
    ·dsimp only;rw [q17];intro x hx
     rcases List.mem_append.1 hx with q | q
     ·exact v3 x q
     ·simp only [List.mem_singleton]at q;subst q;exact q16.1
    ·dsimp only;rw [q17,w];simp;omega
    ·dsimp only;rw [q17,w,ht, ←q16.2.1]
     intro y hy hg
     rcases List.mem_append.1 hy with q | q
     ·exact List.mem_append.2 (.inl (v5 y q hg))
     ·exact List.mem_append.2 (.inr q)
   ·refine W.nx ⟨by dsimp only;omega,by dsimp only;omega,v3,by dsimp only;omega,?_⟩ (by dsimp only;omega)
    dsimp only;rw [w,ht]
    intro y hy hg
    rcases List.mem_append.1 hy with q | q
    ·exact v5 y q hg
    ·simp only [List.mem_singleton]at q;subst q
     rw [u3 hg]at hok;cases hok
 ·simp only [bz]at hi
  rw [Du hi]at v5
  refine W.ex (W.rt ⟨fun x hx=>(hm x).1 (v3 x hx),by omega,fun⟨x,hx1,hx2⟩=>?_⟩)
  have hne:l ≠ []:=fun h=>by have:=(hm x).2 ⟨hx1,hx2⟩;rw [h]at this;cases this
  obtain⟨y,hy1,hy2⟩:=fP l hne (fun i j=>sn rel i j=true) (yI l rel)
   (fun i hi=>by obtain⟨r,h1,h2⟩:=JI hn h0 (h0 i hi) (rel:=rel) (by omega);unfold yI;rw [h1];exact h2.1)
   (fun i hi=>by obtain⟨r,h1,h2⟩:=JI hn h0 (h0 i hi) (rel:=rel) (by omega);unfold yI;rw [h1];exact h2.2.1)
  have:=v5 y hy1 hy2
  intro h;rw [h]at this;cases this
theorem mh {left stamps:List Int} {rel:List (List Bool)} (hl:left.length*8≤140737488355328):
 W (M5 left stamps rel) (fun r=>(∃ x∈left,0≤x)→r∈left∧0≤r):=by
 unfold M5
 simp only [jn]
 refine W.bd (iU hl) (fun l ql=>?_)
 obtain⟨hm,hle,hne⟩:=ql
 refine W.it (fun(v:Int×Int)=>0≤v.2∧v.2≤l.length∧(v.2=0∧v.1= -1∨v.1∈l)) (fun v=>((l.length:Int) - v.2).toNat) ⟨by simp,by simp,by simp⟩ (by simp;omega) (fun v hv=>?_)
 obtain⟨best,k⟩:=v
 simp only at hv
 obtain⟨v1,v2,v3⟩:=hv
 show W (M4 stamps l best k) _
 unfold M4
 simp only [jn]
 unfold Rm
 have w:=Af (x:=k+1) (by omega) (by omega)
 refine W.if (fun hi=>?_) (fun hi=>?_)
 ·simp only [bz]at hi
  refine W.bd (W.idx (by omega)) (fun e13 q13=>?_)
  refine W.bd (Nk (hm _ q13.1).2) (fun r14 _=>?_)
  refine W.gb (fun g=>by simp only [bz]at g;exact Nk (by omega)) (fun r15 _=>?_)
  refine W.lt (fun b16 h16=>?_)
  have hbst:b16=false→0≤best:=fun h=>by rw [h16]at h;simp only [bz]at h;omega
  refine W.gb (fun g=>by simp only [bz]at g;exact Nk (hbst g)) (fun r17 _=>?_)
  refine W.gb (fun _=>W.idx (by omega)) (fun e18 _=>?_)
  refine W.lt (fun b19 h19=>?_)
  refine W.lt (fun b20 h20=>?_)
  refine W.if (fun hb=>?_) (fun hb=>?_)
  ·refine W.re q13.2.2 ?_
   exact W.nx ⟨by dsimp only;omega,by dsimp only;omega, .inr q13.1⟩ (by dsimp only;omega)
  ·simp only [h20,bz]at hb
   have h16':=hbst (by simpa using hb.1)
   refine W.nx ⟨by dsimp only;omega,by dsimp only;omega, .inr ?_⟩ (by dsimp only;omega)
   rcases v3 with q | q
   ·omega
   ·exact q
 ·simp only [bz]at hi
  refine W.ex (W.rt (fun hx=>?_))
  have:=hne hx
  have:0<l.length:=List.length_pos_iff.2 this
  rcases v3 with q | q
  ·omega
  ·exact hm best q
end Go.PL
