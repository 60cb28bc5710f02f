/- Plain laws of states: comparisons with the zero ability; light states have an answer. -/
import Derived.Test.YtelbpfkjhndccaaGreatDoorPlOtoPlPj
import Derived.Test.YtelbpfkjhndccaaGreatDoorPlSbX
import Derived.Test.YtelbpfkjhndccaaGreatDoorPlSbD
namespace Go.PL
open Go
set_option maxRecDepth 100000
set_option linter.all false
set_option maxHeartbeats 4000000
theorem f8 {α:Type} {l:List α} {B:Int→Option (Int⊕(Unit⊕Unit))} {f g:Option Bool} (hn:l.length<9223372036854775807) (hg:T g) (hf:T f) (hE:B (l.length:Int)=some (.inr (.inl ()))) (hB: ∀ (i:Nat) (h:i<l.length), ∃ b:Bool,B (i:Int)=some (if b=true then .inr (.inr ())else .inl ((i:Int)+1))):T ((iter B FU 0).bind (Sum.elim (fun _=>f) (fun _=>g))):=by
 have: ∀ (k i N:Nat),i+k=l.length→k<N→T ((iter B N (i:Int)).bind (Sum.elim (fun _=>f) (fun _=>g))):=by
  intro k
  induction k with
  | zero=>
    intro i N hi hN
    obtain⟨N,rfl⟩: ∃ M,N=M+1:=⟨N - 1,by omega⟩
    obtain rfl:i=l.length:=by omega
    rw [DM hE];exact hf
  | succ k ih=>
    intro i N hi hN
    obtain⟨N,rfl⟩: ∃ M,N=M+1:=⟨N - 1,by omega⟩
    obtain⟨b,hb⟩:=hB i (by omega)
    cases b
    ·rw [if_neg (by simp)]at hb
     rw [Ew hb]
     exact ih (i+1) N (by omega) (by omega)
    ·rw [if_pos rfl]at hb
     rw [DM hb];exact hg
 exact this l.length 0 FU (by omega) (by unfold FU;omega)
theorem am {b:Bool} {i:Nat} (hi:i<9223372036854775807):(if b=true then some (.inr (.inr ()))else some (.inl (Ab ((i:Int)+1))):Option (Int⊕(Unit⊕Unit)))=some (if b=true then .inr (.inr ())else .inl ((i:Int)+1)):=by
 rw [BD (by omega) (by omega)]
 cases b<;>rfl
theorem rL: ∀ l:List Bq,Bg l []=some (l.length==0)
 | []=>by kernel_rfl
 | a::l=>by
   unfold Bg A0
   rw [if_pos (by simp;omega)]
   rfl
theorem rM: ∀ l:List CA,Bx l []=some (l.length==0)
 | []=>by kernel_rfl
 | a::l=>by
   unfold Bx AO
   rw [if_pos (by simp;omega)]
   rfl
theorem rN: ∀ l:List Ar,BB l []=some (l.length==0)
 | []=>by kernel_rfl
 | a::l=>by
   unfold BB AM
   rw [if_pos (by simp;omega)]
   rfl
theorem tA: ∀ l:List Bq,Iq l []=some (l.length==0)
 | []=>by kernel_rfl
 | a::l=>by
   unfold Iq
   rw [if_pos (by simp;omega)]
   rfl
theorem tC: ∀ l:List Ar,Kz l []=some (l.length==0)
 | []=>by kernel_rfl
 | a::l=>by
   unfold Kz
   rw [if_pos (by simp;omega)]
   rfl
theorem kf {x:Ar} (ho:MS x):T (OL x):=by
 have ho2:=ho
 unfold MS at ho2
 unfold OL
 simp only [Option.bind_some]
 refine kw ⟨_,rfl⟩ ?_
 ·refine f8 (NM ho2.2.2.2.2.2.2.2.2.1) ⟨_,rfl⟩ ⟨_,rfl⟩ ?_ (fun i h=>?_)
  ·unfold Kk;rw [if_neg (by simp)]
  ·unfold Kk
   rw [if_pos (by simpa using h),BA h]
   simp only [Option.bind_some,Rh]
   exact⟨_,am (Nat.lt_trans h (NM ho2.2.2.2.2.2.2.2.2.1))⟩
theorem XS {l:List Ar} (ho:SA 560 MS l):T (Ji l):=by
 unfold Ji
 refine f8 (NM ho) ⟨_,rfl⟩ ⟨_,rfl⟩ ?_ (fun i h=>?_)
 ·unfold F9;rw [if_neg (by simp)]
 ·unfold F9
  obtain⟨r,hr⟩:=kf (nP ho h)
  rw [if_pos (by simpa using h),BA h]
  simp only [Option.bind_some,hr]
  exact⟨_,am (Nat.lt_trans h (NM ho))⟩
theorem YN {x:Ay} (h1:SA 176 Xa x.Mods) (h2:SA 144 al x.Specs) (h3:SA 560 MS x.Effects):T (J5 x):=by
 unfold J5
 obtain⟨r,hr⟩:=XS h3
 simp only [Option.bind_some,hr,Rh]
 refine kw ⟨_,rfl⟩ ?_
 ·refine f8 (NM h1) ⟨_,rfl⟩ ?_ ?_ (fun i h=>?_)
  ·unfold Ky
   refine f8 (NM h2) ⟨_,rfl⟩ ⟨_,rfl⟩ ?_ (fun i h=>?_)
   ·unfold Jl;rw [if_neg (by simp)]
   ·unfold Jl
    rw [if_pos (by simpa using h),BA h]
    simp only [Option.bind_some]
    exact⟨_,am (Nat.lt_trans h (NM h2))⟩
  ·unfold Jm;rw [if_neg (by simp)]
  ·unfold Jm
   rw [if_pos (by simpa using h),BA h]
   simp only [Option.bind_some,Rh]
   exact⟨_,am (Nat.lt_trans h (NM h1))⟩
theorem va {x:Ay} (h:H6 x):T (J5 x):=by
 unfold H6 at h
 exact YN h.2.2.1 h.2.2.2.2.2.2.2.1 h.2.2.2.2.2.2.2.2.1
theorem qc {α:Type} {b:Nat} {ok:α→Prop}:SA b ok []:=⟨by simp,fun y h=>by cases h⟩
theorem rO {s:Ai} (ho:NB s):T (OX s):=by
 have ho2:=ho
 unfold NB at ho2
 have hp:=NM ho2.1
 have hc:=NM ho2.2.2.2.2.2.2.1
 have hw:=NM ho2.2.2.2.2.2.1
 have hk:=NM ho2.2.2.2.2.1
 have hJ6:T (Iz s):=by
  unfold Iz
  refine f8 hc ⟨_,rfl⟩ ⟨_,rfl⟩ ?_ (fun i h=>?_)
  ·unfold Jo;rw [if_neg (by simp)]
  ·have hx:=nP ho2.2.2.2.2.2.2.1 h
   unfold Vr at hx
   unfold Jo
   rw [if_pos (by simpa using h),BA h]
   simp only [Option.bind_some,Rh]
   generalize hg:(decide ((300:Int)<(s.Conts[i].Objects.length :Int)))=g
   cases g
   ·have e:(false==false)=true:=rfl
    rw [e,if_pos rfl,Zh]
    obtain⟨r,hr⟩:=YN (x:=⟨(0:Int),(⟨(0:Int),(0:Int),(0:Int),(0:Int),(0:Int),(0:Int),(0:Int),[],(0:Int),(0:Int),(⟨(0:Int),(0:Int)⟩:Ac),(⟨(0:Int),(0:Int)⟩:Ac),(⟨(0:Int),(0:Int)⟩:Ac)⟩:Ag),s.Conts[i].Mods,(⟨(⟨(0:Int),(0:Int),(⟨(0:Int),(0:Int),(0:Int),(0:Int),(0:Int)⟩:A5 (Int))⟩:AP),false,false,(0:Int)⟩:B5),false,(⟨(0:Int),(0:Int),(⟨(0:Int),(0:Int),(0:Int),(0:Int),(0:Int),(0:Int),(0:Int),[],(0:Int),(0:Int),(⟨(0:Int),(0:Int)⟩:Ac),(⟨(0:Int),(0:Int)⟩:Ac),(⟨(0:Int),(0:Int)⟩:Ac)⟩:Ag)⟩:Bs),false,([]:List (CA)),([]:List (Ar)),(⟨(0:Int),(0:Int),(⟨(0:Int),(0:Int),(0:Int),(0:Int),(0:Int),(0:Int),(0:Int),[],(0:Int),(0:Int),(⟨(0:Int),(0:Int)⟩:Ac),(⟨(0:Int),(0:Int)⟩:Ac),(⟨(0:Int),(0:Int)⟩:Ac)⟩:Ag),(0:Int),(0:Int),(0:Int),(0:Int)⟩:AA)⟩) hx.2.2.2.2.2.1 qc qc
    rw [hr]
    simp only [Option.bind_some]
    exact⟨_,am (Nat.lt_trans h hc)⟩
   ·have e:(true==false)=false:=rfl
    rw [e,bl]
    simp only [Option.bind_some]
    exact⟨_,am (Nat.lt_trans h hc)⟩
 have hJ5:T (IA s):=by
  unfold IA
  refine f8 hw ⟨_,rfl⟩ hJ6 ?_ (fun i h=>?_)
  ·unfold Jp;rw [if_neg (by simp)]
  ·have hx:=nP ho2.2.2.2.2.2.1 h
   unfold PF at hx
   unfold Jp
   obtain⟨r,hr⟩:=va hx.2.2.1
   rw [if_pos (by simpa using h),BA h]
   simp only [Option.bind_some,hr]
   exact⟨_,am (Nat.lt_trans h hw)⟩
 have hJ2: ∀ v,T (GZ s v):=by
  intro v
  unfold GZ
  simp only [Option.bind_some]
  refine kw ⟨_,rfl⟩ ?_
  ·refine f8 hk ⟨_,rfl⟩ hJ5 ?_ (fun i h=>?_)
   ·unfold Jq;rw [if_neg (by simp)]
   ·have hx:=nP ho2.2.2.2.2.1 h
    unfold Vq at hx
    unfold Jq
    rw [if_pos (by simpa using h),BA h]
    simp only [Option.bind_some,Rh]
    generalize hg:(decide ((20:Int)<(s.Stack[i].Targets.length :Int)))=g
    cases g
    ·have e:(false==false)=true:=rfl
     obtain⟨r,hr⟩:=va hx.2.2.2.2.2.2.1
     rw [e,if_pos rfl,Zh,hr]
     simp only [Option.bind_some]
     exact⟨_,am (Nat.lt_trans h hk)⟩
    ·have e:(true==false)=false:=rfl
     rw [e,bl]
     simp only [Option.bind_some]
     exact⟨_,am (Nat.lt_trans h hk)⟩
 unfold OX
 have:W ((iter (fun(v:Int×Int)=>Jr s v.1 v.2) FU ((Ab ((Ab ((Ab ((Ab ((Ab ((Ab ((s.Objects.length:Int)+(s.Battlefield.length:Int)))+(s.Exile.length:Int)))+(s.Extra.length:Int)))+(Ab ((8:Int)*(s.Stack.length:Int)))))+(Ab ((8:Int)*(s.Waiting.length:Int)))))+(Ab ((4:Int)*(s.Conts.length:Int))))),(0:Int))).bind (fun o0=>GZ s o0)) (fun _=>True):=by
  refine W.it (fun v=>0≤v.2∧v.2≤s.Players.length) (fun v=>((s.Players.length:Int) - v.2).toNat) ⟨by simp,by simp⟩ (by dsimp only;omega) (fun v hv=>?_)
  obtain⟨a,i⟩:=v
  dsimp only at hv ⊢
  unfold Jr
  simp only [Option.bind_some]
  refine W.if (fun hc=>?_) (fun hc=>?_)
  ·have hi:0≤i∧i<s.Players.length:=by
    refine⟨hv.1,?_⟩
    by_cases h:i<(s.Players.length:Int)
    ·exact h
    ·simp [h]at hc
   rw [Sw hi]
   simp only [Option.bind_some]
   rw [BD (x:=i+1) (by omega) (by omega)]
   exact W.nx ⟨by dsimp only;omega,by dsimp only;omega⟩ (by dsimp only;omega)
  ·refine W.ex ?_
   obtain⟨r,hr⟩:=hJ2 a
   exact⟨r,hr,trivial⟩
 obtain⟨r,hr,_⟩:=this
 exact⟨r,hr⟩
theorem rP {s:Ai} (ho:NB s) (cs:List E1):T (LX cs s):=by
 unfold LX
 obtain⟨r,hr⟩:=rO ho
 rw [hr,Rh]
 exact⟨_,rfl⟩
theorem oQ:L0=some true:=by kernel_rfl
end Go.PL
