/- The characteristics of all objects: the reference's answer exists. -/
import Derived.Test.YtiddnfpjgojoaaaGreatDoorPlEtR
import Derived.Test.YtiddnfpjgojoaaaGreatDoorPlEtL
import Derived.Test.YtiddnfpjgojoaaaGreatDoorPlEtW0
import Derived.Test.YtiddnfpjgojoaaaGreatDoorPlEtW1
import Derived.Test.YtiddnfpjgojoaaaGreatDoorPlEtW2
import Derived.Test.YtiddnfpjgojoaaaGreatDoorPlEtW3
import Derived.Test.YtiddnfpjgojoaaaGreatDoorPlEtW4
import Derived.Test.YtiddnfpjgojoaaaGreatDoorPlEtW5
import Derived.Test.YtiddnfpjgojoaaaGreatDoorPlEtW6
namespace Go.PL
open Go
set_option maxRecDepth 100000
set_option linter.all false
set_option maxHeartbeats 2000000
def mA (e:Be):Bool:=if e.Kind==1 then e.Object != 0 else if e.Kind==2 then e.From==0||e.To==0 else e.Kind==6||e.Kind==7||e.Kind==8||e.Kind==9
theorem sC (e:Be):DD e=some (mA e):=by
 unfold DD Gv mA
 simp only [jn]
 repeat' split
 all_goals simp_all
def i6 (s:Ao) (all:List Ah) (e:Be):Int:=
 if s.Objects.findIdx (fun o=>o.Id==e.Object)<s.Objects.length then(if s.Objects.findIdx (fun o=>o.Id==e.Object)<all.length then(all.getD (s.Objects.findIdx (fun o=>o.Id==e.Object)) default).Control else 0)else e.Player
theorem nD {l:List AM} {x v:Int} (h0:0≤v) (h:v<l.length) (h1: ∀ o∈l.take v.toNat,o.Id ≠ x) (h2:(l.getD v.toNat default).Id =x):l.findIdx (fun o=>o.Id==x)=v.toNat:=by
 rw [List.findIdx_eq (by omega)]
 refine⟨?_,fun j hj=>?_⟩
 ·rw [List.getD_eq_getElem?_getD,List.getElem?_eq_getElem (by omega)]at h2
  simpa using h2
 ·have:=h1 (l[j]'(by omega)) (List.mem_take_iff_getElem.2 ⟨j,by omega,rfl⟩)
  simpa using this
theorem nE {l:List AM} {x:Int} (h1: ∀ o∈l,o.Id ≠ x):l.findIdx (fun o=>o.Id==x)=l.length:=by
 rw [List.findIdx_eq_length]
 intro o ho
 simpa using h1 o ho
theorem Vj {s:Ao} {all:List Ah} {e:Be} (hl:s.Objects.length≤2048):W (Du s all e) (fun r=>r=if mA e then i6 s all e else e.Player):=by
 unfold Du
 simp only [jn]
 rw [sC]
 refine W.lt (fun r1 h1=>?_)
 refine W.if (fun hh=>?_) (fun hh=>?_)
 ·rw [←h1];simp only [bz]at hh;rw [hh];exact W.rt rfl
 ·simp only [bz]at hh
  rw [←h1,hh]
  simp only [if_true]
  refine W.it (fun(v:Int)=>0≤v∧v≤s.Objects.length∧ ∀ o∈s.Objects.take v.toNat,o.Id ≠ e.Object) (fun v=>((s.Objects.length:Int) - v).toNat) ⟨by omega,by omega,by simp⟩ (by omega) (fun v hv=>?_)
  obtain⟨v1,v2,v3⟩:=hv
  unfold J6
  have w:=Af (x:=v+1) (by omega) (by omega)
  refine W.if (fun hi=>?_) (fun hi=>?_)
  ·simp only [bz]at hi
   refine W.bd (W.idx (by omega)) (fun e9 q9=>?_)
   refine W.if (fun hb=>?_) (fun hb=>?_)
   ·simp only [bz]at hb
    refine W.nx ⟨by omega,by omega,?_⟩ (by omega)
    rw [w,FQ v1 hi, ←q9.2.1]
    intro o ho
    rcases List.mem_append.1 ho with q | q
    ·exact v3 o q
    ·simp only [List.mem_singleton]at q;subst q;exact hb
   ·simp only [bz]at hb
    have hf:=nD v1 hi v3 (by rw [←q9.2.1];exact hb)
    refine W.if (fun hc=>?_) (fun hc=>?_)
    ·simp only [bz]at hc
     refine W.bd (W.idx (by omega)) (fun e12 q12=>?_)
     refine W.ex (W.rt ?_)
     unfold i6
     rw [hf,if_pos (by omega),if_pos (by omega), ←q12.2.1]
    ·simp only [bz]at hc
     refine W.ex (W.rt ?_)
     unfold i6
     rw [hf,if_pos (by omega),if_neg (by omega)]
  ·simp only [bz]at hi
   rw [Dq hi]at v3
   refine W.ex (W.rt ?_)
   unfold i6
   rw [nE v3,if_neg (by omega)]
theorem zh {x y:Int} (h: ¬x=y):(x==y)=false:=by simpa using h
theorem Yn (s:Ao) (all:List Ah) (e:Be):Gy s all e=Ia s all e (mA e):=by
 unfold Gy Lz mA
 simp only [jn]
 repeat' split
 all_goals (simp_all<;>simp [zh, *])
theorem Zk {s:Ao} {all:List Ah} {e:Be} (hl:s.Objects.length≤2048):W (Gy s all e) (fun r=>r=if mA e then i6 s all e else e.Player):=by
 rw [Yn]
 unfold Ia
 simp only [jn]
 unfold MG
 cases hh:mA e with
 | false=>
   refine W.it (fun(v:Int)=>v=0) (fun v=>0) rfl (by omega) (fun v hv=>?_)
   unfold H9
   refine W.lt (fun b8 h8=>?_)
   refine W.if (fun hi=>?_) (fun hi=>W.ex (W.rt (by simp)))
   simp [h8]at hi
 | true=>
   simp only [if_true]
   refine W.it (fun(v:Int)=>0≤v∧v≤s.Objects.length∧ ∀ o∈s.Objects.take v.toNat,o.Id ≠ e.Object) (fun v=>((s.Objects.length:Int) - v).toNat) ⟨by omega,by omega,by simp⟩ (by omega) (fun v hv=>?_)
   obtain⟨v1,v2,v3⟩:=hv
   unfold H9
   have w:=Af (x:=v+1) (by omega) (by omega)
   refine W.lt (fun b8 h8=>?_)
   refine W.if (fun hi=>?_) (fun hi=>?_)
   ·simp only [h8,bz,and_true]at hi
    refine W.bd (W.idx (by omega)) (fun e9 q9=>?_)
    refine W.if (fun hb=>?_) (fun hb=>?_)
    ·simp only [bz]at hb
     have hf:=nD v1 hi v3 (by rw [←q9.2.1];exact hb)
     refine W.if (fun hc=>?_) (fun hc=>?_)
     ·simp only [bz]at hc
      refine W.bd (W.idx (by omega)) (fun e12 q12=>?_)
      refine W.ex (W.rt ?_)
      unfold i6
      rw [hf,if_pos (by omega),if_pos (by omega), ←q12.2.1]
     ·simp only [bz]at hc
      refine W.ex (W.rt ?_)
      unfold i6
      rw [hf,if_pos (by omega),if_neg (by omega)]
    ·simp only [bz]at hb
     refine W.nx ⟨by omega,by omega,?_⟩ (by omega)
     rw [w,FQ v1 hi, ←q9.2.1]
     intro o ho
     rcases List.mem_append.1 ho with q | q
     ·exact v3 o q
     ·simp only [List.mem_singleton]at q;subst q;exact hb
   ·simp only [h8,bz,or_false,Bool.true_eq_false]at hi
    rw [Dq hi]at v3
    refine W.ex (W.rt ?_)
    unfold i6
    rw [nE v3,if_neg (by omega)]
theorem Zl {l:List Int} {a:Int} (hl:l.length*8≤140737488355328):W (IX l a) (fun r=>r=l.filter (fun x=>x != a)):=by
 unfold IX
 simp only [jn]
 unfold MF
 refine W.it (fun(v:Int×List Int)=>0≤v.1∧v.1≤l.length∧v.2=(l.take v.1.toNat).filter (fun x=>x != a)) (fun v=>((l.length:Int) - v.1).toNat) ⟨by simp,by simp,by simp⟩ (by simp;omega) (fun v hv=>?_)
 obtain⟨k,out⟩:=v
 simp only at hv
 obtain⟨v1,v2,v3⟩:=hv
 show W (H8 l a k out) _
 unfold H8
 simp only [jn]
 unfold Ly
 have w:=Af (x:=k+1) (by omega) (by omega)
 have hlen:out.length≤k.toNat:=by rw [v3];exact Nat.le_trans (List.length_filter_le _ _) (List.length_take_le _ _)
 refine W.if (fun hi=>?_) (fun hi=>?_)
 ·simp only [bz]at hi
  have ht:=FQ v1 hi
  refine W.bd (W.idx (by omega)) (fun e q=>?_)
  rw [←q.2.1]at ht
  refine W.if (fun hb=>?_) (fun hb=>?_)
  ·refine W.re q.2.2 ?_
   refine W.bd (W.app (by simp;omega) (by unfold maxLen;simp;omega)) (fun l16 q16=>?_)
   refine W.nx ⟨by dsimp only;omega,by dsimp only;omega,?_⟩ (by dsimp only;omega)
   dsimp only;rw [q16,w,ht,List.filter_append,v3];simp [hb]
  ·refine W.nx ⟨by dsimp only;omega,by dsimp only;omega,?_⟩ (by dsimp only;omega)
   dsimp only;rw [w,ht,List.filter_append,v3];simp [hb]
 ·simp only [bz]at hi
  rw [Dq hi]at v3
  exact W.ex (W.rt v3)
theorem F8 {α:Type} {b:Nat} {l:List α} (h:l.length*b≤140737488355328) (hb:1≤b):app b [] l=some l:=by
 have h2:l.length*1≤l.length*b:=Nat.mul_le_mul_left _ hb
 rw [fo ⟨by simpa using h,by unfold maxLen;simp;omega⟩]
 rfl
theorem Zm {a:Au} (h:Bk a):W (Gz a) (fun r=>r=a):=by
 unfold Gz
 rw [F8 (Dr h).1 (by omega),F8 (AN h).1 (by omega)]
 refine W.lt (fun l1 h1=>?_)
 refine W.lt (fun l2 h2=>?_)
 have he:=AB h
 have hel:=he.1
 refine W.it (fun(v:Int×List AU)=>0≤v.1∧v.1≤a.Effects.length∧v.2=a.Effects.take v.1.toNat) (fun v=>((a.Effects.length:Int) - v.1).toNat) ⟨by simp,by simp,by simp⟩ (by simp;omega) (fun v hv=>?_)
 obtain⟨k,out⟩:=v
 simp only at hv
 obtain⟨v1,v2,v3⟩:=hv
 show W (Di a k out) _
 unfold Di
 have w:=Af (x:=k+1) (by omega) (by omega)
 have hlen:out.length=k.toNat:=by rw [v3,List.length_take];omega
 refine W.if (fun hi=>?_) (fun hi=>?_)
 ·simp only [bz]at hi
  have ht:=FQ v1 hi
  refine W.bd (W.idx (by omega)) (fun e q=>?_)
  rw [←q.2.1]at ht
  rw [F8 (BE (Bo he q.1)).1 (by omega)]
  refine W.lt (fun l13 h13=>?_)
  subst h13
  refine W.bd (W.app (by simp;omega) (by unfold maxLen;simp;omega)) (fun l14 q14=>?_)
  refine W.nx ⟨by dsimp only;omega,by dsimp only;omega,?_⟩ (by dsimp only;omega)
  dsimp only;rw [q14,w,ht,v3]
 ·simp only [bz]at hi
  rw [Dq hi]at v3
  refine W.ex ?_
  unfold DR
  refine W.rt ?_
  rw [h1,h2,v3]
theorem Zn {c:A0} (h:Cv c):W (DZ c) (fun r=>A8 r∧r.Abilities=c.Abilities):=by
 unfold DZ
 refine W.bd ec (fun r1 _=>?_)
 rw [F8 (Ee (Lk h)).1 (by omega)]
 refine W.lt (fun l2 h2=>?_)
 have he:=CK h
 have hel:=he.1
 refine W.it (fun(v:Int×List Au)=>0≤v.1∧v.1≤c.Abilities.length∧v.2=c.Abilities.take v.1.toNat) (fun v=>((c.Abilities.length:Int) - v.1).toNat) ⟨by simp,by simp,by simp⟩ (by simp;omega) (fun v hv=>?_)
 obtain⟨k,out⟩:=v
 simp only at hv
 obtain⟨v1,v2,v3⟩:=hv
 show W (Dj c k out) _
 unfold Dj
 have w:=Af (x:=k+1) (by omega) (by omega)
 have hlen:out.length=k.toNat:=by rw [v3,List.length_take];omega
 refine W.if (fun hi=>?_) (fun hi=>?_)
 ·simp only [bz]at hi
  have ht:=FQ v1 hi
  refine W.bd (W.idx (by omega)) (fun e q=>?_)
  rw [←q.2.1]at ht
  refine W.bd (Zm (Bo he q.1)) (fun r13 q13=>?_)
  subst q13
  refine W.bd (W.app (by simp;omega) (by unfold maxLen;simp;omega)) (fun l14 q14=>?_)
  refine W.nx ⟨by dsimp only;omega,by dsimp only;omega,?_⟩ (by dsimp only;omega)
  dsimp only;rw [q14,w,ht,v3]
 ·simp only [bz]at hi
  rw [Dq hi]at v3
  refine W.ex ?_
  unfold DY
  refine W.rt ⟨?_,v3⟩
  rw [h2,v3]
  exact⟨Lj h,⟨Ee (Lk h),trivial⟩,he,trivial⟩
theorem nF:Fq []:=by unfold Fq;simp
theorem i7:A8 (⟨[],(⟨(0:Int),(0:Int),(⟨(0:Int),(0:Int),(0:Int),(0:Int),(0:Int)⟩:A5 (Int))⟩:Bs),(0:Int),(⟨(0:Int),(0:Int),([]:List (List UInt8))⟩:BX),(0:Int),(0:Int),(0:Int),([]:List (Au)),(0:Int)⟩:Ah):=⟨nF,⟨G0,trivial⟩,G0,trivial⟩
theorem i8 {cards:List A0} {o:AM} (h:B3 176 Cv cards) (h8: ∀ y∈cards,y.Abilities.length≤8):W (SJ cards o) (fun r=>A8 r∧r.Abilities.length≤8):=by
 unfold SJ bi bh bf
 simp only [jn]
 have key: ∀ i:Int, ∀ f:Ah→Option Ah,(∀ t,A8 t∧t.Abilities.length≤8→W (f t) (fun r=>A8 r∧r.Abilities.length≤8))→W ((some (if(decide ((0:Int)≤i))=true then decide (i<(cards.length:Int))else false)).bind fun b9=>
  (if b9=true then
   (idx cards i).bind fun e11=>
   (DZ e11).bind fun r12=>
   f r12
  else
   f (⟨[],(⟨(0:Int),(0:Int),(⟨(0:Int),(0:Int),(0:Int),(0:Int),(0:Int)⟩:A5 (Int))⟩:Bs),(0:Int),(⟨(0:Int),(0:Int),([]:List (List UInt8))⟩:BX),(0:Int),(0:Int),(0:Int),([]:List (Au)),(0:Int)⟩:Ah))) (fun r=>A8 r∧r.Abilities.length≤8):=by
  intro i f hf
  refine W.lt (fun b9 h9=>?_)
  refine W.if (fun hb=>?_) (fun hb=>hf _ ⟨i7,by simp⟩)
  simp only [h9,bz]at hb
  refine W.bd (W.idx (by omega)) (fun e q=>?_)
  refine W.bd (Zn (Bo h q.1)) (fun r12 q12=>?_)
  exact hf _ ⟨q12.1,by rw [q12.2];exact h8 e q.1⟩
 have key2: ∀ t,A8 t∧t.Abilities.length≤8→W ((some (if(o.Zone==(0:Int))=true then true else o.Zone==(5:Int))).bind fun b7=>
  (if b7=true then some ({{t with Control:=o.Owner}with Control:=o.Control})else some ({t with Control:=o.Owner}))) (fun r=>A8 r∧r.Abilities.length≤8):=by
  intro t ht
  refine W.lt (fun b9 h9=>?_)
  exact W.if (fun _=>W.rt ⟨⟨ht.1.1,ht.1.2.1,ht.1.2.2.1,trivial⟩,ht.2⟩) (fun _=>W.rt ⟨⟨ht.1.1,ht.1.2.1,ht.1.2.2.1,trivial⟩,ht.2⟩)
 exact W.if (fun _=>key _ _ key2) (fun _=>key _ _ key2)
end Go.PL
