/- Plain laws of states: comparisons with the zero ability; light states have an answer. -/
import Derived.Test.YtelbpfkjhndccaaGreatDoorPlOtoPlPj
import Derived.Test.YtelbpfkjhndccaaGreatDoorPlSbX
import Derived.Test.YtelbpfkjhndccaaGreatDoorPlSbD
namespace Go.PL
open Go
set_option maxRecDepth 100000
set_option linter.all false
set_option maxHeartbeats 4000000
theorem ba {α:Type} {l:List α} {B:Int→Option (Int⊕(Unit⊕Unit))} {f g:Option Bool} (hn:l.length<9223372036854775807) (hg:T g) (hf:T f) (hE:B (l.length:Int)=some (.inr (.inl ()))) (hB: ∀ (i:Nat) (h:i<l.length), ∃ b:Bool,B (i:Int)=some (if b=true then .inr (.inr ())else .inl ((i:Int)+1))):T ((iter B FU 0).bind (Sum.elim (fun _=>f) (fun _=>g))):=by
 have: ∀ (k i N:Nat),i+k=l.length→k<N→T ((iter B N (i:Int)).bind (Sum.elim (fun _=>f) (fun _=>g))):=by
  intro k
  induction k with
  | zero=>
    intro i N hi hN
    obtain⟨N,rfl⟩: ∃ M,N=M+1:=⟨N - 1,by omega⟩
    obtain rfl:i=l.length:=by omega
    rw [DU hE];exact hf
  | succ k ih=>
    intro i N hi hN
    obtain⟨N,rfl⟩: ∃ M,N=M+1:=⟨N - 1,by omega⟩
    obtain⟨b,hb⟩:=hB i (by omega)
    cases b
    ·rw [if_neg (by simp)]at hb
     rw [Eh hb]
     exact ih (i+1) N (by omega) (by omega)
    ·rw [if_pos rfl]at hb
     rw [DU hb];exact hg
 exact this l.length 0 FU (by omega) (by unfold FU;omega)
theorem XX {b:Bool} {i:Nat} (hi:i<9223372036854775807):(if b=true then some (.inr (.inr ()))else some (.inl (Ab ((i:Int)+1))):Option (Int⊕(Unit⊕Unit)))=some (if b=true then .inr (.inr ())else .inl ((i:Int)+1)):=by
 rw [BC (by omega) (by omega)]
 cases b<;>rfl
theorem lu: ∀ l:List Bx,Bd l []=some (l.length==0)
 | []=>by kernel_rfl
 | a::l=>by
   unfold Bd AV
   rw [if_pos (by simp;omega)]
   rfl
theorem lw: ∀ l:List C0,Br l []=some (l.length==0)
 | []=>by kernel_rfl
 | a::l=>by
   unfold Br AK
   rw [if_pos (by simp;omega)]
   rfl
theorem ly: ∀ l:List Aw,Bu l []=some (l.length==0)
 | []=>by kernel_rfl
 | a::l=>by
   unfold Bu AH
   rw [if_pos (by simp;omega)]
   rfl
theorem dM {x:Aw} (ho:Ky x):T (L1 x):=by
 have ho2:=ho
 unfold Ky at ho2
 unfold L1
 simp only [Option.bind_some]
 refine dU ⟨_,rfl⟩ ?_
 ·refine ba (Lf ho2.2.2.2.2.2.2.2.2.1) ⟨_,rfl⟩ ⟨_,rfl⟩ ?_ (fun i h=>?_)
  ·unfold IQ;rw [if_neg (by simp)]
  ·unfold IQ
   rw [if_pos (by simpa using h),B8 h]
   simp only [Option.bind_some,PG]
   exact⟨_,XX (Nat.lt_trans h (Lf ho2.2.2.2.2.2.2.2.2.1))⟩
theorem VK {l:List Aw} (ho:OE 560 Ky l):T (HZ l):=by
 unfold HZ
 refine ba (Lf ho) ⟨_,rfl⟩ ⟨_,rfl⟩ ?_ (fun i h=>?_)
 ·unfold Ft;rw [if_neg (by simp)]
 ·unfold Ft
  obtain⟨r,hr⟩:=dM (gU ho h)
  rw [if_pos (by simpa using h),B8 h]
  simp only [Option.bind_some,hr]
  exact⟨_,XX (Nat.lt_trans h (Lf ho))⟩
theorem WI {x:AN} (h1:OE 176 UO x.Mods) (h2:OE 144 XV x.Specs) (h3:OE 560 Ky x.Effects):T (IH x):=by
 unfold IH
 obtain⟨r,hr⟩:=VK h3
 simp only [Option.bind_some,hr,PG]
 refine dU ⟨_,rfl⟩ ?_
 ·refine ba (Lf h1) ⟨_,rfl⟩ ?_ ?_ (fun i h=>?_)
  ·unfold IW
   refine ba (Lf h2) ⟨_,rfl⟩ ⟨_,rfl⟩ ?_ (fun i h=>?_)
   ·unfold H2;rw [if_neg (by simp)]
   ·unfold H2
    rw [if_pos (by simpa using h),B8 h]
    simp only [Option.bind_some]
    exact⟨_,XX (Nat.lt_trans h (Lf h2))⟩
  ·unfold H3;rw [if_neg (by simp)]
  ·unfold H3
   rw [if_pos (by simpa using h),B8 h]
   simp only [Option.bind_some,PG]
   exact⟨_,XX (Nat.lt_trans h (Lf h1))⟩
theorem pz {x:AN} (h:Hf x):T (IH x):=by
 unfold Hf at h
 exact WI h.2.2.1 h.2.2.2.2.2.2.2.1 h.2.2.2.2.2.2.2.2.1
theorem US {α:Type} {b:Nat} {ok:α→Prop}:OE b ok []:=⟨by simp,fun y h=>by cases h⟩
theorem lz {s:Aj} (ho:K7 s):T (L5 s):=by
 have ho2:=ho
 unfold K7 at ho2
 have hp:=Lf ho2.1
 have hc:=Lf ho2.2.2.2.2.2.2.1
 have hw:=Lf ho2.2.2.2.2.2.1
 have hk:=Lf ho2.2.2.2.2.1
 have hJ6:T (Hz s):=by
  unfold Hz
  refine ba hc ⟨_,rfl⟩ ⟨_,rfl⟩ ?_ (fun i h=>?_)
  ·unfold H6;rw [if_neg (by simp)]
  ·have hx:=gU ho2.2.2.2.2.2.2.1 h
   unfold Qs at hx
   unfold H6
   rw [if_pos (by simpa using h),B8 h]
   simp only [Option.bind_some,PG]
   generalize hg:(decide ((300:Int)<(s.Conts[i].Objects.length :Int)))=g
   cases g
   ·have e:(false==false)=true:=rfl
    rw [e,if_pos rfl,PD]
    obtain⟨r,hr⟩:=WI (x:=⟨(0:Int),(⟨(0:Int),(0:Int),(0:Int),(0:Int),(0:Int),(0:Int),(0:Int),[],(0:Int),(0:Int),(⟨(0:Int),(0:Int)⟩:Ae),(⟨(0:Int),(0:Int)⟩:Ae),(⟨(0:Int),(0:Int)⟩:Ae)⟩:Af),s.Conts[i].Mods,(⟨(⟨(0:Int),(0:Int),(⟨(0:Int),(0:Int),(0:Int),(0:Int),(0:Int)⟩:A5 (Int))⟩:A1),false,false,(0:Int)⟩:CG),false,(⟨(0:Int),(0:Int),(⟨(0:Int),(0:Int),(0:Int),(0:Int),(0:Int),(0:Int),(0:Int),[],(0:Int),(0:Int),(⟨(0:Int),(0:Int)⟩:Ae),(⟨(0:Int),(0:Int)⟩:Ae),(⟨(0:Int),(0:Int)⟩:Ae)⟩:Af)⟩:By),false,([]:List (C0)),([]:List (Aw)),(⟨(0:Int),(0:Int),(⟨(0:Int),(0:Int),(0:Int),(0:Int),(0:Int),(0:Int),(0:Int),[],(0:Int),(0:Int),(⟨(0:Int),(0:Int)⟩:Ae),(⟨(0:Int),(0:Int)⟩:Ae),(⟨(0:Int),(0:Int)⟩:Ae)⟩:Af),(0:Int),(0:Int),(0:Int),(0:Int)⟩:AJ)⟩) hx.2.2.2.2.2.1 US US
    rw [hr]
    simp only [Option.bind_some]
    exact⟨_,XX (Nat.lt_trans h hc)⟩
   ·have e:(true==false)=false:=rfl
    rw [e,PE]
    simp only [Option.bind_some]
    exact⟨_,XX (Nat.lt_trans h hc)⟩
 have hJ5:T (HA s):=by
  unfold HA
  refine ba hw ⟨_,rfl⟩ hJ6 ?_ (fun i h=>?_)
  ·unfold H7;rw [if_neg (by simp)]
  ·have hx:=gU ho2.2.2.2.2.2.1 h
   unfold K6 at hx
   unfold H7
   obtain⟨r,hr⟩:=pz hx.2.2.1
   rw [if_pos (by simpa using h),B8 h]
   simp only [Option.bind_some,hr]
   exact⟨_,XX (Nat.lt_trans h hw)⟩
 have hJ2: ∀ v,T (F3 s v):=by
  intro v
  unfold F3
  simp only [Option.bind_some]
  refine dU ⟨_,rfl⟩ ?_
  ·refine ba hk ⟨_,rfl⟩ hJ5 ?_ (fun i h=>?_)
   ·unfold H8;rw [if_neg (by simp)]
   ·have hx:=gU ho2.2.2.2.2.1 h
    unfold M0 at hx
    unfold H8
    rw [if_pos (by simpa using h),B8 h]
    simp only [Option.bind_some,PG]
    generalize hg:(decide ((20:Int)<(s.Stack[i].Targets.length :Int)))=g
    cases g
    ·have e:(false==false)=true:=rfl
     obtain⟨r,hr⟩:=pz hx.2.2.2.2.2.2.1
     rw [e,if_pos rfl,PD,hr]
     simp only [Option.bind_some]
     exact⟨_,XX (Nat.lt_trans h hk)⟩
    ·have e:(true==false)=false:=rfl
     rw [e,PE]
     simp only [Option.bind_some]
     exact⟨_,XX (Nat.lt_trans h hk)⟩
 unfold L5
 have:W ((iter (fun(v:Int×Int)=>H9 s v.1 v.2) FU ((Ab ((Ab ((Ab ((Ab ((Ab ((Ab ((s.Objects.length:Int)+(s.Battlefield.length:Int)))+(s.Exile.length:Int)))+(s.Extra.length:Int)))+(Ab ((8:Int)*(s.Stack.length:Int)))))+(Ab ((8:Int)*(s.Waiting.length:Int)))))+(Ab ((4:Int)*(s.Conts.length:Int))))),(0:Int))).bind (fun o0=>F3 s o0)) (fun _=>True):=by
  refine W.it (fun v=>0≤v.2∧v.2≤s.Players.length) (fun v=>((s.Players.length:Int) - v.2).toNat) ⟨by simp,by simp⟩ (by dsimp only;omega) (fun v hv=>?_)
  obtain⟨a,i⟩:=v
  dsimp only at hv ⊢
  unfold H9
  simp only [Option.bind_some]
  refine W.if (fun hc=>?_) (fun hc=>?_)
  ·have hi:0≤i∧i<s.Players.length:=by
    refine⟨hv.1,?_⟩
    by_cases h:i<(s.Players.length:Int)
    ·exact h
    ·simp [h]at hc
   rw [PC hi]
   simp only [Option.bind_some]
   rw [BC (x:=i+1) (by omega) (by omega)]
   exact W.nx ⟨by dsimp only;omega,by dsimp only;omega⟩ (by dsimp only;omega)
  ·refine W.ex ?_
   obtain⟨r,hr⟩:=hJ2 a
   exact⟨r,hr,trivial⟩
 obtain⟨r,hr,_⟩:=this
 exact⟨r,hr⟩
theorem lA {s:Aj} (ho:K7 s) (cs:List HW):T (JJ cs s):=by
 unfold JJ
 obtain⟨r,hr⟩:=lz ho
 rw [hr,PG]
 exact⟨_,rfl⟩
theorem XY:JK=some true:=by kernel_rfl
end Go.PL
