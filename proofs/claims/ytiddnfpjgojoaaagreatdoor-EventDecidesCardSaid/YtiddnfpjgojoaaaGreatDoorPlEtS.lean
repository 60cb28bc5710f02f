/- The characteristics of all objects: the reference's answer exists. -/
import Derived.Test.YtiddnfpjgojoaaaGreatDoorPlEtR
import Derived.Test.YtiddnfpjgojoaaaGreatDoorPlEtL
import Derived.Test.YtiddnfpjgojoaaaGreatDoorPlEtW0
import Derived.Test.YtiddnfpjgojoaaaGreatDoorPlEtW1
import Derived.Test.YtiddnfpjgojoaaaGreatDoorPlEtW2
import Derived.Test.YtiddnfpjgojoaaaGreatDoorPlEtW3
import Derived.Test.YtiddnfpjgojoaaaGreatDoorPlEtW4
import Derived.Test.YtiddnfpjgojoaaaGreatDoorPlEtW5
import Derived.Test.YtiddnfpjgojoaaaGreatDoorPlEtW6
namespace Go.PL
open Go
set_option maxRecDepth 100000
set_option linter.all false
set_option maxHeartbeats 2000000
def mO (e:Be):Bool:=if e.Kind==1 then e.Object != 0 else if e.Kind==2 then e.From==0||e.To==0 else e.Kind==6||e.Kind==7||e.Kind==8||e.Kind==9
theorem sR (e:Be):DG e=some (mO e):=by
 unfold DG GC mO
 simp only [jn]
 repeat' split
 all_goals simp_all
def jp (s:Ao) (all:List Ah) (e:Be):Int:=
 if s.Objects.findIdx (fun o=>o.Id==e.Object)<s.Objects.length then(if s.Objects.findIdx (fun o=>o.Id==e.Object)<all.length then(all.getD (s.Objects.findIdx (fun o=>o.Id==e.Object)) default).Control else 0)else e.Player
theorem nQ {l:List AO} {x v:Int} (h0:0≤v) (h:v<l.length) (h1: ∀ o∈l.take v.toNat,o.Id ≠ x) (h2:(l.getD v.toNat default).Id =x):l.findIdx (fun o=>o.Id==x)=v.toNat:=by
 rw [List.findIdx_eq (by omega)]
 refine⟨?_,fun j hj=>?_⟩
 ·rw [List.getD_eq_getElem?_getD,List.getElem?_eq_getElem (by omega)]at h2
  simpa using h2
 ·have:=h1 (l[j]'(by omega)) (List.mem_take_iff_getElem.2 ⟨j,by omega,rfl⟩)
  simpa using this
theorem nS {l:List AO} {x:Int} (h1: ∀ o∈l,o.Id ≠ x):l.findIdx (fun o=>o.Id==x)=l.length:=by
 rw [List.findIdx_eq_length]
 intro o ho
 simpa using h1 o ho
theorem Vq {s:Ao} {all:List Ah} {e:Be} (hl:s.Objects.length≤2048):W (Dx s all e) (fun r=>r=if mO e then jp s all e else e.Player):=by
 unfold Dx
 simp only [jn]
 rw [sR]
 refine W.lt (fun r1 h1=>?_)
 refine W.if (fun hh=>?_) (fun hh=>?_)
 ·rw [←h1];simp only [bz]at hh;rw [hh];exact W.rt rfl
 ·simp only [bz]at hh
  rw [←h1,hh]
  simp only [if_true]
  refine W.it (fun(v:Int)=>0≤v∧v≤s.Objects.length∧ ∀ o∈s.Objects.take v.toNat,o.Id ≠ e.Object) (fun v=>((s.Objects.length:Int) - v).toNat) ⟨by omega,by omega,by simp⟩ (by omega) (fun v hv=>?_)
  obtain⟨v1,v2,v3⟩:=hv
  unfold Kj
  have w:=Af (x:=v+1) (by omega) (by omega)
  refine W.if (fun hi=>?_) (fun hi=>?_)
  ·simp only [bz]at hi
   refine W.bd (W.idx (by omega)) (fun e9 q9=>?_)
   refine W.if (fun hb=>?_) (fun hb=>?_)
   ·simp only [bz]at hb
    refine W.nx ⟨by omega,by omega,?_⟩ (by omega)
    rw [w,FW v1 hi, ←q9.2.1]
    intro o ho
    rcases List.mem_append.1 ho with q | q
    ·exact v3 o q
    ·simp only [List.mem_singleton]at q;subst q;exact hb
   ·simp only [bz]at hb
    have hf:=nQ v1 hi v3 (by rw [←q9.2.1];exact hb)
    refine W.if (fun hc=>?_) (fun hc=>?_)
    ·simp only [bz]at hc
     refine W.bd (W.idx (by omega)) (fun e12 q12=>?_)
     refine W.ex (W.rt ?_)
     unfold jp
     rw [hf,if_pos (by omega),if_pos (by omega), ←q12.2.1]
    ·simp only [bz]at hc
     refine W.ex (W.rt ?_)
     unfold jp
     rw [hf,if_pos (by omega),if_neg (by omega)]
  ·simp only [bz]at hi
   rw [Du hi]at v3
   refine W.ex (W.rt ?_)
   unfold jp
   rw [nS v3,if_neg (by omega)]
theorem zw {x y:Int} (h: ¬x=y):(x==y)=false:=by simpa using h
theorem YC (s:Ao) (all:List Ah) (e:Be):GE s all e=Ii s all e (mO e):=by
 unfold GE LL mO
 simp only [jn]
 repeat' split
 all_goals (simp_all<;>simp [zw, *])
theorem Zz {s:Ao} {all:List Ah} {e:Be} (hl:s.Objects.length≤2048):W (GE s all e) (fun r=>r=if mO e then jp s all e else e.Player):=by
 rw [YC]
 unfold Ii
 simp only [jn]
 unfold MQ
 cases hh:mO e with
 | false=>
   refine W.it (fun(v:Int)=>v=0) (fun v=>0) rfl (by omega) (fun v hv=>?_)
   unfold Ih
   refine W.lt (fun b8 h8=>?_)
   refine W.if (fun hi=>?_) (fun hi=>W.ex (W.rt (by simp)))
   simp [h8]at hi
 | true=>
   simp only [if_true]
   refine W.it (fun(v:Int)=>0≤v∧v≤s.Objects.length∧ ∀ o∈s.Objects.take v.toNat,o.Id ≠ e.Object) (fun v=>((s.Objects.length:Int) - v).toNat) ⟨by omega,by omega,by simp⟩ (by omega) (fun v hv=>?_)
   obtain⟨v1,v2,v3⟩:=hv
   unfold Ih
   have w:=Af (x:=v+1) (by omega) (by omega)
   refine W.lt (fun b8 h8=>?_)
   refine W.if (fun hi=>?_) (fun hi=>?_)
   ·simp only [h8,bz,and_true]at hi
    refine W.bd (W.idx (by omega)) (fun e9 q9=>?_)
    refine W.if (fun hb=>?_) (fun hb=>?_)
    ·simp only [bz]at hb
     have hf:=nQ v1 hi v3 (by rw [←q9.2.1];exact hb)
     refine W.if (fun hc=>?_) (fun hc=>?_)
     ·simp only [bz]at hc
      refine W.bd (W.idx (by omega)) (fun e12 q12=>?_)
      refine W.ex (W.rt ?_)
      unfold jp
      rw [hf,if_pos (by omega),if_pos (by omega), ←q12.2.1]
     ·simp only [bz]at hc
      refine W.ex (W.rt ?_)
      unfold jp
      rw [hf,if_pos (by omega),if_neg (by omega)]
    ·simp only [bz]at hb
     refine W.nx ⟨by omega,by omega,?_⟩ (by omega)
     rw [w,FW v1 hi, ←q9.2.1]
     intro o ho
     rcases List.mem_append.1 ho with q | q
     ·exact v3 o q
     ·simp only [List.mem_singleton]at q;subst q;exact hb
   ·simp only [h8,bz,or_false,Bool.true_eq_false]at hi
    rw [Du hi]at v3
    refine W.ex (W.rt ?_)
    unfold jp
    rw [nS v3,if_neg (by omega)]
theorem ZA {l:List Int} {a:Int} (hl:l.length*8≤140737488355328):W (I6 l a) (fun r=>r=l.filter (fun x=>x != a)):=by
 unfold I6
 simp only [jn]
 unfold MP
 refine W.it (fun(v:Int×List Int)=>0≤v.1∧v.1≤l.length∧v.2=(l.take v.1.toNat).filter (fun x=>x != a)) (fun v=>((l.length:Int) - v.1).toNat) ⟨by simp,by simp,by simp⟩ (by simp;omega) (fun v hv=>?_)
 obtain⟨k,out⟩:=v
 simp only at hv
 obtain⟨v1,v2,v3⟩:=hv
 show W (Ig l a k out) _
 unfold Ig
 simp only [jn]
 unfold LK
 have w:=Af (x:=k+1) (by omega) (by omega)
 have hlen:out.length≤k.toNat:=by rw [v3];exact Nat.le_trans (List.length_filter_le _ _) (List.length_take_le _ _)
 refine W.if (fun hi=>?_) (fun hi=>?_)
 ·simp only [bz]at hi
  have ht:=FW v1 hi
  refine W.bd (W.idx (by omega)) (fun e q=>?_)
  rw [←q.2.1]at ht
  refine W.if (fun hb=>?_) (fun hb=>?_)
  ·refine W.re q.2.2 ?_
   refine W.bd (W.app (by simp;omega) (by unfold maxLen;simp;omega)) (fun l16 q16=>?_)
   refine W.nx ⟨by dsimp only;omega,by dsimp only;omega,?_⟩ (by dsimp only;omega)
   dsimp only;rw [q16,w,ht,List.filter_append,v3];simp [hb]
  ·refine W.nx ⟨by dsimp only;omega,by dsimp only;omega,?_⟩ (by dsimp only;omega)
   dsimp only;rw [w,ht,List.filter_append,v3];simp [hb]
 ·simp only [bz]at hi
  rw [Du hi]at v3
  exact W.ex (W.rt v3)
theorem Gd {α:Type} {b:Nat} {l:List α} (h:l.length*b≤140737488355328) (hb:1≤b):app b [] l=some l:=by
 have h2:l.length*1≤l.length*b:=Nat.mul_le_mul_left _ hb
 rw [fJ ⟨by simpa using h,by unfold maxLen;simp;omega⟩]
 rfl
theorem ZB {a:Aw} (h:Bl a):W (GF a) (fun r=>r=a):=by
 unfold GF
 rw [Gd (Dv h).1 (by omega),Gd (AP h).1 (by omega)]
 refine W.lt (fun l1 h1=>?_)
 refine W.lt (fun l2 h2=>?_)
 have he:=AE h
 have hel:=he.1
 refine W.it (fun(v:Int×List AV)=>0≤v.1∧v.1≤a.Effects.length∧v.2=a.Effects.take v.1.toNat) (fun v=>((a.Effects.length:Int) - v.1).toNat) ⟨by simp,by simp,by simp⟩ (by simp;omega) (fun v hv=>?_)
 obtain⟨k,out⟩:=v
 simp only at hv
 obtain⟨v1,v2,v3⟩:=hv
 show W (Dm a k out) _
 unfold Dm
 have w:=Af (x:=k+1) (by omega) (by omega)
 have hlen:out.length=k.toNat:=by rw [v3,List.length_take];omega
 refine W.if (fun hi=>?_) (fun hi=>?_)
 ·simp only [bz]at hi
  have ht:=FW v1 hi
  refine W.bd (W.idx (by omega)) (fun e q=>?_)
  rw [←q.2.1]at ht
  rw [Gd (BF (Bp he q.1)).1 (by omega)]
  refine W.lt (fun l13 h13=>?_)
  subst h13
  refine W.bd (W.app (by simp;omega) (by unfold maxLen;simp;omega)) (fun l14 q14=>?_)
  refine W.nx ⟨by dsimp only;omega,by dsimp only;omega,?_⟩ (by dsimp only;omega)
  dsimp only;rw [q14,w,ht,v3]
 ·simp only [bz]at hi
  rw [Du hi]at v3
  refine W.ex ?_
  unfold DU
  refine W.rt ?_
  rw [h1,h2,v3]
theorem ZC {c:A1} (h:Cy c):W (D1 c) (fun r=>A8 r∧r.Abilities=c.Abilities):=by
 unfold D1
 refine W.bd eE (fun r1 _=>?_)
 rw [Gd (Eh (Ly h)).1 (by omega)]
 refine W.lt (fun l2 h2=>?_)
 have he:=CN h
 have hel:=he.1
 refine W.it (fun(v:Int×List Aw)=>0≤v.1∧v.1≤c.Abilities.length∧v.2=c.Abilities.take v.1.toNat) (fun v=>((c.Abilities.length:Int) - v.1).toNat) ⟨by simp,by simp,by simp⟩ (by simp;omega) (fun v hv=>?_)
 obtain⟨k,out⟩:=v
 simp only at hv
 obtain⟨v1,v2,v3⟩:=hv
 show W (Dp c k out) _
 unfold Dp
 have w:=Af (x:=k+1) (by omega) (by omega)
 have hlen:out.length=k.toNat:=by rw [v3,List.length_take];omega
 refine W.if (fun hi=>?_) (fun hi=>?_)
 ·simp only [bz]at hi
  have ht:=FW v1 hi
  refine W.bd (W.idx (by omega)) (fun e q=>?_)
  rw [←q.2.1]at ht
  refine W.bd (ZB (Bp he q.1)) (fun r13 q13=>?_)
  subst q13
  refine W.bd (W.app (by simp;omega) (by unfold maxLen;simp;omega)) (fun l14 q14=>?_)
  refine W.nx ⟨by dsimp only;omega,by dsimp only;omega,?_⟩ (by dsimp only;omega)
  dsimp only;rw [q14,w,ht,v3]
 ·simp only [bz]at hi
  rw [Du hi]at v3
  refine W.ex ?_
  unfold D0
  refine W.rt ⟨?_,v3⟩
  rw [h2,v3]
  exact⟨Lx h,⟨Eh (Ly h),trivial⟩,he,trivial⟩
theorem nT:Fx []:=by unfold Fx;simp
theorem jq:A8 (⟨[],(⟨(0:Int),(0:Int),(⟨(0:Int),(0:Int),(0:Int),(0:Int),(0:Int)⟩:A5 (Int))⟩:Bs),(0:Int),(⟨(0:Int),(0:Int),([]:List (List UInt8))⟩:BZ),(0:Int),(0:Int),(0:Int),([]:List (Aw)),(0:Int)⟩:Ah):=⟨nT,⟨G6,trivial⟩,G6,trivial⟩
theorem jr {cards:List A1} {o:AO} (h:B5 176 Cy cards) (h8: ∀ y∈cards,y.Abilities.length≤8):W (SR cards o) (fun r=>A8 r∧r.Abilities.length≤8):=by
 unfold SR bH bG bF
 simp only [jn]
 have key: ∀ i:Int, ∀ f:Ah→Option Ah,(∀ t,A8 t∧t.Abilities.length≤8→W (f t) (fun r=>A8 r∧r.Abilities.length≤8))→W ((some (if(decide ((0:Int)≤i))=true then decide (i<(cards.length:Int))else false)).bind fun b9=>
  (if b9=true then
   (idx cards i).bind fun e11=>
   (D1 e11).bind fun r12=>
   f r12
  else
   f (⟨[],(⟨(0:Int),(0:Int),(⟨(0:Int),(0:Int),(0:Int),(0:Int),(0:Int)⟩:A5 (Int))⟩:Bs),(0:Int),(⟨(0:Int),(0:Int),([]:List (List UInt8))⟩:BZ),(0:Int),(0:Int),(0:Int),([]:List (Aw)),(0:Int)⟩:Ah))) (fun r=>A8 r∧r.Abilities.length≤8):=by
  intro i f hf
  refine W.lt (fun b9 h9=>?_)
  refine W.if (fun hb=>?_) (fun hb=>hf _ ⟨jq,by simp⟩)
  simp only [h9,bz]at hb
  refine W.bd (W.idx (by omega)) (fun e q=>?_)
  refine W.bd (ZC (Bp h q.1)) (fun r12 q12=>?_)
  exact hf _ ⟨q12.1,by rw [q12.2];exact h8 e q.1⟩
 have key2: ∀ t,A8 t∧t.Abilities.length≤8→W ((some (if(o.Zone==(0:Int))=true then true else o.Zone==(5:Int))).bind fun b7=>
  (if b7=true then some ({{t with Control:=o.Owner}with Control:=o.Control})else some ({t with Control:=o.Owner}))) (fun r=>A8 r∧r.Abilities.length≤8):=by
  intro t ht
  refine W.lt (fun b9 h9=>?_)
  exact W.if (fun _=>W.rt ⟨⟨ht.1.1,ht.1.2.1,ht.1.2.2.1,trivial⟩,ht.2⟩) (fun _=>W.rt ⟨⟨ht.1.1,ht.1.2.1,ht.1.2.2.1,trivial⟩,ht.2⟩)
 exact W.if (fun _=>key _ _ key2) (fun _=>key _ _ key2)
end Go.PL
