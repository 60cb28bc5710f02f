/- Functions of the program, as partial functions in Lean, with proofs. -/
import Derived.Test.YthppcliidflkjaaGreatDoorKrtoPlPx
import Derived.Test.YthppcliidflkjaaGreatDoorPlCsB
namespace Go.PL
open Go Go.RowKit Go.Proofs
set_option maxRecDepth 100000
set_option linter.all false
set_option maxHeartbeats 4000000
theorem my:Tryz.prog.bytesOf 9=16:=by kernel_rfl
theorem ja:Tryz.prog.bytesOf 42=144:=by kernel_rfl
theorem jb:Tryz.prog.bytesOf 75=640:=by kernel_rfl
theorem fG:Tryz.prog.bytesOf 129=560:=by kernel_rfl
theorem W1:Tryz.prog.bytesOf 147=176:=by kernel_rfl
def nS {α:Type} (ok:α→Prop) (a:A5 α):Prop:= ∀ y∈a.l,ok y
theorem qj {P:Program} {t e:TypeId} {n:Nat} {cs:List C} {α:Type} {enc:α→List C} {ok:α→Prop} (hu:P.underlying t=some (.array 5 e)) (hd: ∀ {n ds},AU P n e ds→ ∃ x,ds=enc x∧ok x) (h:AU P n t cs): ∃ a:A5 α,cs=qg enc a∧nS ok a:=by
 obtain⟨l,h1,h2,h3⟩:=dA hu hd h
 subst h2
 match l,h1,h3 with
 | [x0,x1,x2,x3,x4],_,h3=>exact⟨⟨x0,x1,x2,x3,x4⟩,rfl,h3⟩
def nT {α:Type} (ok:α→Prop) (a:A6 α):Prop:= ∀ y∈a.l,ok y
theorem qk {P:Program} {t e:TypeId} {n:Nat} {cs:List C} {α:Type} {enc:α→List C} {ok:α→Prop} (hu:P.underlying t=some (.array 6 e)) (hd: ∀ {n ds},AU P n e ds→ ∃ x,ds=enc x∧ok x) (h:AU P n t cs): ∃ a:A6 α,cs=qh enc a∧nT ok a:=by
 obtain⟨l,h1,h2,h3⟩:=dA hu hd h
 subst h2
 match l,h1,h3 with
 | [x0,x1,x2,x3,x4,x5],_,h3=>exact⟨⟨x0,x1,x2,x3,x4,x5⟩,rfl,h3⟩
def UL (x:Eg):Prop:=GQ .i64 x.Generic∧GQ .i64 x.X∧nS (GQ .i64) x.Color∧True
theorem W2 {n:Nat} {cs:List C} (h:AU Tryz.prog n 24 cs): ∃ x:Eg,cs=BC x∧UL x:=by
 obtain⟨m,Ch,h0,hE⟩:=AX (ts:=[3,3,22]) Tryz.underlying24 rfl h
 obtain⟨p,h1,h2⟩:=(Aw (dI Tryz.underlying3) (Aw (dI Tryz.underlying3) (Aw (qj Tryz.underlying22 (dI Tryz.underlying3)) GF))) hE
 exact⟨⟨p.1,p.2.1,p.2.2.1⟩,h0.trans h1,h2⟩
def ZM (x:Qw):Prop:=GQ .i64 x.Super∧GQ .i64 x.Types∧jN 16 (mL) x.Subs∧True
theorem fH {n:Nat} {cs:List C} (h:AU Tryz.prog n 27 cs): ∃ x:Qw,cs=Lv x∧ZM x:=by
 obtain⟨m,Ch,h0,hE⟩:=AX (ts:=[3,3,25]) Tryz.underlying27 rfl h
 obtain⟨p,h1,h2⟩:=(Aw (dI Tryz.underlying3) (Aw (dI Tryz.underlying3) (Aw (dL Tryz.underlying25 my (dS Tryz.underlying9)) GF))) hE
 exact⟨⟨p.1,p.2.1,p.2.2.1⟩,h0.trans h1,h2⟩
def LB (x:Bw):Prop:=GQ .i64 x.Kind∧GQ .i64 x.N∧True
theorem MB {n:Nat} {cs:List C} (h:AU Tryz.prog n 38 cs): ∃ x:Bw,cs=bU x∧LB x:=by
 obtain⟨m,Ch,h0,hE⟩:=AX (ts:=[3,3]) Tryz.underlying38 rfl h
 obtain⟨p,h1,h2⟩:=(Aw (dI Tryz.underlying3) (Aw (dI Tryz.underlying3) GF)) hE
 exact⟨⟨p.1,p.2.1⟩,h0.trans h1,h2⟩
def Da (x:BW):Prop:=GQ .i64 x.Zone∧GQ .i64 x.Who∧GQ .i64 x.Self∧GQ .i64 x.Types∧GQ .i64 x.NotTypes∧GQ .i64 x.Colors∧GQ .i64 x.NotColors∧mL x.Sub∧GQ .i64 x.Keys∧GQ .i64 x.Tap∧LB x.Power∧LB x.Tough∧LB x.Value∧True
theorem C6 {n:Nat} {cs:List C} (h:AU Tryz.prog n 40 cs): ∃ x:BW,cs=Cw x∧Da x:=by
 obtain⟨m,Ch,h0,hE⟩:=AX (ts:=[3,3,3,3,3,3,3,9,3,3,38,38,38]) Tryz.underlying40 rfl h
 obtain⟨p,h1,h2⟩:=(Aw (dI Tryz.underlying3) (Aw (dI Tryz.underlying3) (Aw (dI Tryz.underlying3) (Aw (dI Tryz.underlying3) (Aw (dI Tryz.underlying3) (Aw (dI Tryz.underlying3) (Aw (dI Tryz.underlying3) (Aw (dS Tryz.underlying9) (Aw (dI Tryz.underlying3) (Aw (dI Tryz.underlying3) (Aw MB (Aw MB (Aw MB GF))))))))))))) hE
 exact⟨⟨p.1,p.2.1,p.2.2.1,p.2.2.2.1,p.2.2.2.2.1,p.2.2.2.2.2.1,p.2.2.2.2.2.2.1,p.2.2.2.2.2.2.2.1,p.2.2.2.2.2.2.2.2.1,p.2.2.2.2.2.2.2.2.2.1,p.2.2.2.2.2.2.2.2.2.2.1,p.2.2.2.2.2.2.2.2.2.2.2.1,p.2.2.2.2.2.2.2.2.2.2.2.2.1⟩,h0.trans h1,h2⟩
def YF (x:Lw):Prop:=GQ .i64 x.Kind∧GQ .i64 x.N∧GQ .i64 x.M∧mL x.Sub∧Da x.Filter∧True
theorem ZN {n:Nat} {cs:List C} (h:AU Tryz.prog n 147 cs): ∃ x:Lw,cs=Bz x∧YF x:=by
 obtain⟨m,Ch,h0,hE⟩:=AX (ts:=[3,3,3,9,40]) Tryz.underlying147 rfl h
 obtain⟨p,h1,h2⟩:=(Aw (dI Tryz.underlying3) (Aw (dI Tryz.underlying3) (Aw (dI Tryz.underlying3) (Aw (dS Tryz.underlying9) (Aw C6 GF))))) hE
 exact⟨⟨p.1,p.2.1,p.2.2.1,p.2.2.2.1,p.2.2.2.2.1⟩,h0.trans h1,h2⟩
def W3 (x:MA):Prop:=UL x.Mana∧jM x.Tap∧jM x.Sacrifice∧GQ .i64 x.Life∧True
theorem bY {n:Nat} {cs:List C} (h:AU Tryz.prog n 68 cs): ∃ x:MA,cs=SQ x∧W3 x:=by
 obtain⟨m,Ch,h0,hE⟩:=AX (ts:=[24,4,4,3]) Tryz.underlying68 rfl h
 obtain⟨p,h1,h2⟩:=(Aw W2 (Aw (dB Tryz.underlying4) (Aw (dB Tryz.underlying4) (Aw (dI Tryz.underlying3) GF)))) hE
 exact⟨⟨p.1,p.2.1,p.2.2.1,p.2.2.2.1⟩,h0.trans h1,h2⟩
def QC (x:Hk):Prop:=GQ .i64 x.When∧GQ .i64 x.Who∧Da x.Filter∧True
theorem W4 {n:Nat} {cs:List C} (h:AU Tryz.prog n 70 cs): ∃ x:Hk,cs=NB x∧QC x:=by
 obtain⟨m,Ch,h0,hE⟩:=AX (ts:=[3,3,40]) Tryz.underlying70 rfl h
 obtain⟨p,h1,h2⟩:=(Aw (dI Tryz.underlying3) (Aw (dI Tryz.underlying3) (Aw C6 GF))) hE
 exact⟨⟨p.1,p.2.1,p.2.2.1⟩,h0.trans h1,h2⟩
def ZO (x:BT):Prop:=jM x.Player∧jM x.Object∧Da x.Filter∧True
theorem fI {n:Nat} {cs:List C} (h:AU Tryz.prog n 42 cs): ∃ x:BT,cs=Aq x∧ZO x:=by
 obtain⟨m,Ch,h0,hE⟩:=AX (ts:=[4,4,40]) Tryz.underlying42 rfl h
 obtain⟨p,h1,h2⟩:=(Aw (dB Tryz.underlying4) (Aw (dB Tryz.underlying4) (Aw C6 GF))) hE
 exact⟨⟨p.1,p.2.1,p.2.2.1⟩,h0.trans h1,h2⟩
def fJ (x:i6):Prop:=GQ .i64 x.Kind∧GQ .i64 x.N∧Da x.Filter∧True
theorem jc {n:Nat} {cs:List C} (h:AU Tryz.prog n 125 cs): ∃ x:i6,cs=ZL x∧fJ x:=by
 obtain⟨m,Ch,h0,hE⟩:=AX (ts:=[3,3,40]) Tryz.underlying125 rfl h
 obtain⟨p,h1,h2⟩:=(Aw (dI Tryz.underlying3) (Aw (dI Tryz.underlying3) (Aw C6 GF))) hE
 exact⟨⟨p.1,p.2.1,p.2.2.1⟩,h0.trans h1,h2⟩
def SR (x:N9):Prop:=GQ .i64 x.Kind∧GQ .i64 x.N∧GQ .i64 x.Counter∧Da x.Filter∧True
theorem YG {n:Nat} {cs:List C} (h:AU Tryz.prog n 127 cs): ∃ x:N9,cs=Qx x∧SR x:=by
 obtain⟨m,Ch,h0,hE⟩:=AX (ts:=[3,3,3,40]) Tryz.underlying127 rfl h
 obtain⟨p,h1,h2⟩:=(Aw (dI Tryz.underlying3) (Aw (dI Tryz.underlying3) (Aw (dI Tryz.underlying3) (Aw C6 GF)))) hE
 exact⟨⟨p.1,p.2.1,p.2.2.1,p.2.2.2.1⟩,h0.trans h1,h2⟩
def SS (x:Bc):Prop:=GQ .i64 x.Op∧fJ x.Ref∧SR x.Amount∧GQ .i64 x.Counter∧GQ .i64 x.Zone∧mL x.Card∧Da x.Filter∧nT (GQ .i64) x.Pool∧jN 176 (YF) x.Mods∧True
theorem YH {n:Nat} {cs:List C} (h:AU Tryz.prog n 129 cs): ∃ x:Bc,cs=AW x∧SS x:=by
 obtain⟨m,Ch,h0,hE⟩:=AX (ts:=[3,125,127,3,3,9,40,57,66]) Tryz.underlying129 rfl h
 obtain⟨p,h1,h2⟩:=(Aw (dI Tryz.underlying3) (Aw jc (Aw YG (Aw (dI Tryz.underlying3) (Aw (dI Tryz.underlying3) (Aw (dS Tryz.underlying9) (Aw C6 (Aw (qk Tryz.underlying57 (dI Tryz.underlying3)) (Aw (dL Tryz.underlying66 W1 ZN) GF))))))))) hE
 exact⟨⟨p.1,p.2.1,p.2.2.1,p.2.2.2.1,p.2.2.2.2.1,p.2.2.2.2.2.1,p.2.2.2.2.2.2.1,p.2.2.2.2.2.2.2.1,p.2.2.2.2.2.2.2.2.1⟩,h0.trans h1,h2⟩
def QD (x:Hm):Prop:=GQ .i64 x.On∧GQ .i64 x.Who∧Da x.Filter∧GQ .i64 x.Do∧GQ .i64 x.N∧GQ .i64 x.Zone∧GQ .i64 x.Counter∧True
theorem W5 {n:Nat} {cs:List C} (h:AU Tryz.prog n 73 cs): ∃ x:Hm,cs=NC x∧QD x:=by
 obtain⟨m,Ch,h0,hE⟩:=AX (ts:=[3,3,40,3,3,3,3]) Tryz.underlying73 rfl h
 obtain⟨p,h1,h2⟩:=(Aw (dI Tryz.underlying3) (Aw (dI Tryz.underlying3) (Aw C6 (Aw (dI Tryz.underlying3) (Aw (dI Tryz.underlying3) (Aw (dI Tryz.underlying3) (Aw (dI Tryz.underlying3) GF))))))) hE
 exact⟨⟨p.1,p.2.1,p.2.2.1,p.2.2.2.1,p.2.2.2.2.1,p.2.2.2.2.2.1,p.2.2.2.2.2.2.1⟩,h0.trans h1,h2⟩
def QE (x:Ar):Prop:=GQ .i64 x.Kind∧Da x.Filter∧jN 176 (YF) x.Mods∧W3 x.Price∧jM x.Slow∧QC x.Trigger∧jM x.May∧jN 144 (ZO) x.Specs∧jN 560 (SS) x.Effects∧QD x.Replace∧True
theorem W6 {n:Nat} {cs:List C} (h:AU Tryz.prog n 75 cs): ∃ x:Ar,cs=Ao x∧QE x:=by
 obtain⟨m,Ch,h0,hE⟩:=AX (ts:=[3,40,66,68,4,70,4,35,71,73]) Tryz.underlying75 rfl h
 obtain⟨p,h1,h2⟩:=(Aw (dI Tryz.underlying3) (Aw C6 (Aw (dL Tryz.underlying66 W1 ZN) (Aw bY (Aw (dB Tryz.underlying4) (Aw W4 (Aw (dB Tryz.underlying4) (Aw (dL Tryz.underlying35 ja fI) (Aw (dL Tryz.underlying71 fG YH) (Aw W5 GF)))))))))) hE
 exact⟨⟨p.1,p.2.1,p.2.2.1,p.2.2.2.1,p.2.2.2.2.1,p.2.2.2.2.2.1,p.2.2.2.2.2.2.1,p.2.2.2.2.2.2.2.1,p.2.2.2.2.2.2.2.2.1,p.2.2.2.2.2.2.2.2.2.1⟩,h0.trans h1,h2⟩
def ZP (x:Gb):Prop:=mL x.Name∧jM x.Token∧UL x.Cost∧GQ .i64 x.Color∧ZM x.Line∧GQ .i64 x.Power∧GQ .i64 x.Tough∧GQ .i64 x.Keys∧jN 640 (QE) x.Abilities∧True
theorem fK {n:Nat} {cs:List C} (h:AU Tryz.prog n 30 cs): ∃ x:Gb,cs=D8 x∧ZP x:=by
 obtain⟨m,Ch,h0,hE⟩:=AX (ts:=[9,4,24,3,27,3,3,3,28]) Tryz.underlying30 rfl h
 obtain⟨p,h1,h2⟩:=(Aw (dS Tryz.underlying9) (Aw (dB Tryz.underlying4) (Aw W2 (Aw (dI Tryz.underlying3) (Aw fH (Aw (dI Tryz.underlying3) (Aw (dI Tryz.underlying3) (Aw (dI Tryz.underlying3) (Aw (dL Tryz.underlying28 jb W6) GF))))))))) hE
 exact⟨⟨p.1,p.2.1,p.2.2.1,p.2.2.2.1,p.2.2.2.2.1,p.2.2.2.2.2.1,p.2.2.2.2.2.2.1,p.2.2.2.2.2.2.2.1,p.2.2.2.2.2.2.2.2.1⟩,h0.trans h1,h2⟩
end Go.PL
