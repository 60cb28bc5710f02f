/- Functions of the program, as partial functions in Lean, with proofs. -/
import Derived.Test.YtelbpfkjhndccaaGreatDoorPlOtoPlPj
import Derived.Test.YtelbpfkjhndccaaGreatDoorPlSbB
namespace Go.PL
open Go Go.RowKit Go.Proofs
set_option maxRecDepth 100000
set_option linter.all false
set_option maxHeartbeats 4000000
theorem ln:Tryz.prog.bytesOf 3=8:=by kernel_rfl
theorem lp:Tryz.prog.bytesOf 9=16:=by kernel_rfl
theorem iJ:Tryz.prog.bytesOf 51=640:=by kernel_rfl
theorem UN:Tryz.prog.bytesOf 107=176:=by kernel_rfl
theorem fX:Tryz.prog.bytesOf 109=144:=by kernel_rfl
theorem fY:Tryz.prog.bytesOf 112=16:=by kernel_rfl
theorem fZ:Tryz.prog.bytesOf 141=560:=by kernel_rfl
def lq {α:Type} (ok:α→Prop) (a:A3 α):Prop:= ∀ y∈a.l,ok y
theorem py {P:Program} {t e:TypeId} {n:Nat} {cs:List C} {α:Type} {enc:α→List C} {ok:α→Prop} (hu:P.underlying t=some (.array 3 e)) (hd: ∀ {n ds},BF P n e ds→ ∃ x,ds=enc x∧ok x) (h:BF P n t cs): ∃ a:A3 α,cs=Vk enc a∧lq ok a:=by
 obtain⟨l,h1,h2,h3⟩:=dA hu hd h
 subst h2
 match l,h1,h3 with
 | [x0,x1,x2],_,h3=>exact⟨⟨x0,x1,x2⟩,rfl,h3⟩
def nE {α:Type} (ok:α→Prop) (a:A5 α):Prop:= ∀ y∈a.l,ok y
theorem pK {P:Program} {t e:TypeId} {n:Nat} {cs:List C} {α:Type} {enc:α→List C} {ok:α→Prop} (hu:P.underlying t=some (.array 5 e)) (hd: ∀ {n ds},BF P n e ds→ ∃ x,ds=enc x∧ok x) (h:BF P n t cs): ∃ a:A5 α,cs=dW enc a∧nE ok a:=by
 obtain⟨l,h1,h2,h3⟩:=dA hu hd h
 subst h2
 match l,h1,h3 with
 | [x0,x1,x2,x3,x4],_,h3=>exact⟨⟨x0,x1,x2,x3,x4⟩,rfl,h3⟩
def lr {α:Type} (ok:α→Prop) (a:A6 α):Prop:= ∀ y∈a.l,ok y
theorem pL {P:Program} {t e:TypeId} {n:Nat} {cs:List C} {α:Type} {enc:α→List C} {ok:α→Prop} (hu:P.underlying t=some (.array 6 e)) (hd: ∀ {n ds},BF P n e ds→ ∃ x,ds=enc x∧ok x) (h:BF P n t cs): ∃ a:A6 α,cs=T6 enc a∧lr ok a:=by
 obtain⟨l,h1,h2,h3⟩:=dA hu hd h
 subst h2
 match l,h1,h3 with
 | [x0,x1,x2,x3,x4,x5],_,h3=>exact⟨⟨x0,x1,x2,x3,x4,x5⟩,rfl,h3⟩
def XT (x:A1):Prop:=DE .i64 x.Generic∧DE .i64 x.X∧nE (DE .i64) x.Color∧True
theorem Zw {n:Nat} {cs:List C} (h:BF Tryz.prog n 41 cs): ∃ x:A1,cs=Fj x∧XT x:=by
 obtain⟨m,dss,h0,hE⟩:=Bs (ts:=[3,3,39]) Tryz.underlying41 rfl h
 obtain⟨p,h1,h2⟩:=(AB (dI Tryz.underlying3) (AB (dI Tryz.underlying3) (AB (pK Tryz.underlying39 (dI Tryz.underlying3)) HV))) hE
 exact⟨⟨p.1,p.2.1,p.2.2.1⟩,h0.trans h1,h2⟩
def cv (x:bP):Prop:=DE .i64 x.Super∧DE .i64 x.Types∧OE 16 (lR) x.Subs∧True
theorem f0 {n:Nat} {cs:List C} (h:BF Tryz.prog n 267 cs): ∃ x:bP,cs=fa x∧cv x:=by
 obtain⟨m,dss,h0,hE⟩:=Bs (ts:=[3,3,149]) Tryz.underlying267 rfl h
 obtain⟨p,h1,h2⟩:=(AB (dI Tryz.underlying3) (AB (dI Tryz.underlying3) (AB (dL Tryz.underlying149 lp (dS Tryz.underlying9)) HV))) hE
 exact⟨⟨p.1,p.2.1,p.2.2.1⟩,h0.trans h1,h2⟩
def Qr (x:Ae):Prop:=DE .i64 x.Kind∧DE .i64 x.N∧True
theorem Ru {n:Nat} {cs:List C} (h:BF Tryz.prog n 35 cs): ∃ x:Ae,cs=Hh x∧Qr x:=by
 obtain⟨m,dss,h0,hE⟩:=Bs (ts:=[3,3]) Tryz.underlying35 rfl h
 obtain⟨p,h1,h2⟩:=(AB (dI Tryz.underlying3) (AB (dI Tryz.underlying3) HV)) hE
 exact⟨⟨p.1,p.2.1⟩,h0.trans h1,h2⟩
def HL (x:Af):Prop:=DE .i64 x.Zone∧DE .i64 x.Who∧DE .i64 x.Self∧DE .i64 x.Types∧DE .i64 x.NotTypes∧DE .i64 x.Colors∧DE .i64 x.NotColors∧lR x.Sub∧DE .i64 x.Keys∧DE .i64 x.Tap∧Qr x.Power∧Qr x.Tough∧Qr x.Value∧True
theorem He {n:Nat} {cs:List C} (h:BF Tryz.prog n 37 cs): ∃ x:Af,cs=A7 x∧HL x:=by
 obtain⟨m,dss,h0,hE⟩:=Bs (ts:=[3,3,3,3,3,3,3,9,3,3,35,35,35]) Tryz.underlying37 rfl h
 obtain⟨p,h1,h2⟩:=(AB (dI Tryz.underlying3) (AB (dI Tryz.underlying3) (AB (dI Tryz.underlying3) (AB (dI Tryz.underlying3) (AB (dI Tryz.underlying3) (AB (dI Tryz.underlying3) (AB (dI Tryz.underlying3) (AB (dS Tryz.underlying9) (AB (dI Tryz.underlying3) (AB (dI Tryz.underlying3) (AB Ru (AB Ru (AB Ru HV))))))))))))) hE
 exact⟨⟨p.1,p.2.1,p.2.2.1,p.2.2.2.1,p.2.2.2.2.1,p.2.2.2.2.2.1,p.2.2.2.2.2.2.1,p.2.2.2.2.2.2.2.1,p.2.2.2.2.2.2.2.2.1,p.2.2.2.2.2.2.2.2.2.1,p.2.2.2.2.2.2.2.2.2.2.1,p.2.2.2.2.2.2.2.2.2.2.2.1,p.2.2.2.2.2.2.2.2.2.2.2.2.1⟩,h0.trans h1,h2⟩
def UO (x:Bx):Prop:=DE .i64 x.Kind∧DE .i64 x.N∧DE .i64 x.M∧lR x.Sub∧HL x.Filter∧True
theorem XU {n:Nat} {cs:List C} (h:BF Tryz.prog n 107 cs): ∃ x:Bx,cs=AM x∧UO x:=by
 obtain⟨m,dss,h0,hE⟩:=Bs (ts:=[3,3,3,9,37]) Tryz.underlying107 rfl h
 obtain⟨p,h1,h2⟩:=(AB (dI Tryz.underlying3) (AB (dI Tryz.underlying3) (AB (dI Tryz.underlying3) (AB (dS Tryz.underlying9) (AB He HV))))) hE
 exact⟨⟨p.1,p.2.1,p.2.2.1,p.2.2.2.1,p.2.2.2.2.1⟩,h0.trans h1,h2⟩
def Zx (x:CG):Prop:=XT x.Mana∧Xe x.Tap∧Xe x.Sacrifice∧DE .i64 x.Life∧True
theorem dK {n:Nat} {cs:List C} (h:BF Tryz.prog n 43 cs): ∃ x:CG,cs=I8 x∧Zx x:=by
 obtain⟨m,dss,h0,hE⟩:=Bs (ts:=[41,4,4,3]) Tryz.underlying43 rfl h
 obtain⟨p,h1,h2⟩:=(AB Zw (AB (dB Tryz.underlying4) (AB (dB Tryz.underlying4) (AB (dI Tryz.underlying3) HV)))) hE
 exact⟨⟨p.1,p.2.1,p.2.2.1,p.2.2.2.1⟩,h0.trans h1,h2⟩
def UP (x:By):Prop:=DE .i64 x.When∧DE .i64 x.Who∧HL x.Filter∧True
theorem Zy {n:Nat} {cs:List C} (h:BF Tryz.prog n 45 cs): ∃ x:By,cs=GW x∧UP x:=by
 obtain⟨m,dss,h0,hE⟩:=Bs (ts:=[3,3,37]) Tryz.underlying45 rfl h
 obtain⟨p,h1,h2⟩:=(AB (dI Tryz.underlying3) (AB (dI Tryz.underlying3) (AB He HV))) hE
 exact⟨⟨p.1,p.2.1,p.2.2.1⟩,h0.trans h1,h2⟩
def XV (x:C0):Prop:=Xe x.Player∧Xe x.Object∧HL x.Filter∧True
theorem f5 {n:Nat} {cs:List C} (h:BF Tryz.prog n 109 cs): ∃ x:C0,cs=Bj x∧XV x:=by
 obtain⟨m,dss,h0,hE⟩:=Bs (ts:=[4,4,37]) Tryz.underlying109 rfl h
 obtain⟨p,h1,h2⟩:=(AB (dB Tryz.underlying4) (AB (dB Tryz.underlying4) (AB He HV))) hE
 exact⟨⟨p.1,p.2.1,p.2.2.1⟩,h0.trans h1,h2⟩
def f6 (x:IM):Prop:=DE .i64 x.Kind∧DE .i64 x.N∧HL x.Filter∧True
theorem iK {n:Nat} {cs:List C} (h:BF Tryz.prog n 137 cs): ∃ x:IM,cs=J6 x∧f6 x:=by
 obtain⟨m,dss,h0,hE⟩:=Bs (ts:=[3,3,37]) Tryz.underlying137 rfl h
 obtain⟨p,h1,h2⟩:=(AB (dI Tryz.underlying3) (AB (dI Tryz.underlying3) (AB He HV))) hE
 exact⟨⟨p.1,p.2.1,p.2.2.1⟩,h0.trans h1,h2⟩
def WF (x:Bv):Prop:=DE .i64 x.Kind∧DE .i64 x.N∧DE .i64 x.Counter∧HL x.Filter∧True
theorem aZ {n:Nat} {cs:List C} (h:BF Tryz.prog n 139 cs): ∃ x:Bv,cs=BK x∧WF x:=by
 obtain⟨m,dss,h0,hE⟩:=Bs (ts:=[3,3,3,37]) Tryz.underlying139 rfl h
 obtain⟨p,h1,h2⟩:=(AB (dI Tryz.underlying3) (AB (dI Tryz.underlying3) (AB (dI Tryz.underlying3) (AB He HV)))) hE
 exact⟨⟨p.1,p.2.1,p.2.2.1,p.2.2.2.1⟩,h0.trans h1,h2⟩
def Ky (x:Aw):Prop:=DE .i64 x.Op∧f6 x.Ref∧WF x.Amount∧DE .i64 x.Counter∧DE .i64 x.Zone∧lR x.Card∧HL x.Filter∧lr (DE .i64) x.Pool∧OE 176 (UO) x.Mods∧True
theorem a6 {n:Nat} {cs:List C} (h:BF Tryz.prog n 141 cs): ∃ x:Aw,cs=Az x∧Ky x:=by
 obtain⟨m,dss,h0,hE⟩:=Bs (ts:=[3,137,139,3,3,9,37,71,38]) Tryz.underlying141 rfl h
 obtain⟨p,h1,h2⟩:=(AB (dI Tryz.underlying3) (AB iK (AB aZ (AB (dI Tryz.underlying3) (AB (dI Tryz.underlying3) (AB (dS Tryz.underlying9) (AB He (AB (pL Tryz.underlying71 (dI Tryz.underlying3)) (AB (dL Tryz.underlying38 UN XU) HV))))))))) hE
 exact⟨⟨p.1,p.2.1,p.2.2.1,p.2.2.2.1,p.2.2.2.2.1,p.2.2.2.2.2.1,p.2.2.2.2.2.2.1,p.2.2.2.2.2.2.2.1,p.2.2.2.2.2.2.2.2.1⟩,h0.trans h1,h2⟩
def UQ (x:AJ):Prop:=DE .i64 x.On∧DE .i64 x.Who∧HL x.Filter∧DE .i64 x.Do∧DE .i64 x.N∧DE .i64 x.Zone∧DE .i64 x.Counter∧True
theorem Zz {n:Nat} {cs:List C} (h:BF Tryz.prog n 49 cs): ∃ x:AJ,cs=Bk x∧UQ x:=by
 obtain⟨m,dss,h0,hE⟩:=Bs (ts:=[3,3,37,3,3,3,3]) Tryz.underlying49 rfl h
 obtain⟨p,h1,h2⟩:=(AB (dI Tryz.underlying3) (AB (dI Tryz.underlying3) (AB He (AB (dI Tryz.underlying3) (AB (dI Tryz.underlying3) (AB (dI Tryz.underlying3) (AB (dI Tryz.underlying3) HV))))))) hE
 exact⟨⟨p.1,p.2.1,p.2.2.1,p.2.2.2.1,p.2.2.2.2.1,p.2.2.2.2.2.1,p.2.2.2.2.2.2.1⟩,h0.trans h1,h2⟩
def Hf (x:AN):Prop:=DE .i64 x.Kind∧HL x.Filter∧OE 176 (UO) x.Mods∧Zx x.Price∧Xe x.Slow∧UP x.Trigger∧Xe x.May∧OE 144 (XV) x.Specs∧OE 560 (Ky) x.Effects∧UQ x.Replace∧True
theorem NX {n:Nat} {cs:List C} (h:BF Tryz.prog n 51 cs): ∃ x:AN,cs=Bp x∧Hf x:=by
 obtain⟨m,dss,h0,hE⟩:=Bs (ts:=[3,37,38,43,4,45,4,46,47,49]) Tryz.underlying51 rfl h
 obtain⟨p,h1,h2⟩:=(AB (dI Tryz.underlying3) (AB He (AB (dL Tryz.underlying38 UN XU) (AB dK (AB (dB Tryz.underlying4) (AB Zy (AB (dB Tryz.underlying4) (AB (dL Tryz.underlying46 fX f5) (AB (dL Tryz.underlying47 fZ a6) (AB Zz HV)))))))))) hE
 exact⟨⟨p.1,p.2.1,p.2.2.1,p.2.2.2.1,p.2.2.2.2.1,p.2.2.2.2.2.1,p.2.2.2.2.2.2.1,p.2.2.2.2.2.2.2.1,p.2.2.2.2.2.2.2.2.1,p.2.2.2.2.2.2.2.2.2.1⟩,h0.trans h1,h2⟩
def iL (x:HW):Prop:=lR x.Name∧Xe x.Token∧XT x.Cost∧DE .i64 x.Color∧cv x.Line∧DE .i64 x.Power∧DE .i64 x.Tough∧DE .i64 x.Keys∧OE 640 (Hf) x.Abilities∧True
theorem f7 {n:Nat} {cs:List C} (h:BF Tryz.prog n 270 cs): ∃ x:HW,cs=JD x∧iL x:=by
 obtain⟨m,dss,h0,hE⟩:=Bs (ts:=[9,4,41,3,267,3,3,3,268]) Tryz.underlying270 rfl h
 obtain⟨p,h1,h2⟩:=(AB (dS Tryz.underlying9) (AB (dB Tryz.underlying4) (AB Zw (AB (dI Tryz.underlying3) (AB f0 (AB (dI Tryz.underlying3) (AB (dI Tryz.underlying3) (AB (dI Tryz.underlying3) (AB (dL Tryz.underlying268 iJ NX) HV))))))))) hE
 exact⟨⟨p.1,p.2.1,p.2.2.1,p.2.2.2.1,p.2.2.2.2.1,p.2.2.2.2.2.1,p.2.2.2.2.2.2.1,p.2.2.2.2.2.2.2.1,p.2.2.2.2.2.2.2.2.1⟩,h0.trans h1,h2⟩
def L9 (x:Au):Prop:=DE .i64 x.Life∧DE .i64 x.Venom∧DE .i64 x.Lands∧lr (DE .i64) x.Pool∧Xe x.Failed∧Xe x.Lost∧OE 8 (DE .i64) x.Library∧OE 8 (DE .i64) x.Hand∧OE 8 (DE .i64) x.Graveyard∧True
def Ma (x:Ao):Prop:=DE .i64 x.Id∧DE .i64 x.Card∧DE .i64 x.Owner∧DE .i64 x.Control∧DE .i64 x.Zone∧Xe x.Token∧Xe x.Tapped∧Xe x.Sick∧Xe x.Deadly∧DE .i64 x.Damage∧lq (DE .i64) x.Counters∧DE .i64 x.Stamp∧DE .i64 x.Copy∧DE .i64 x.Attack∧Xe x.Blocked∧DE .i64 x.Blocks∧DE .i64 x.Shield∧True
theorem a7 {n:Nat} {cs:List C} (h:BF Tryz.prog n 63 cs): ∃ x:Ao,cs=Ac x∧Ma x:=by
 obtain⟨m,dss,h0,hE⟩:=Bs (ts:=[3,3,3,3,3,4,4,4,4,3,53,3,3,3,4,3,3]) Tryz.underlying63 rfl h
 obtain⟨p,h1,h2⟩:=(AB (dI Tryz.underlying3) (AB (dI Tryz.underlying3) (AB (dI Tryz.underlying3) (AB (dI Tryz.underlying3) (AB (dI Tryz.underlying3) (AB (dB Tryz.underlying4) (AB (dB Tryz.underlying4) (AB (dB Tryz.underlying4) (AB (dB Tryz.underlying4) (AB (dI Tryz.underlying3) (AB (py Tryz.underlying53 (dI Tryz.underlying3)) (AB (dI Tryz.underlying3) (AB (dI Tryz.underlying3) (AB (dI Tryz.underlying3) (AB (dB Tryz.underlying4) (AB (dI Tryz.underlying3) (AB (dI Tryz.underlying3) HV))))))))))))))))) hE
 exact⟨⟨p.1,p.2.1,p.2.2.1,p.2.2.2.1,p.2.2.2.2.1,p.2.2.2.2.2.1,p.2.2.2.2.2.2.1,p.2.2.2.2.2.2.2.1,p.2.2.2.2.2.2.2.2.1,p.2.2.2.2.2.2.2.2.2.1,p.2.2.2.2.2.2.2.2.2.2.1,p.2.2.2.2.2.2.2.2.2.2.2.1,p.2.2.2.2.2.2.2.2.2.2.2.2.1,p.2.2.2.2.2.2.2.2.2.2.2.2.2.1,p.2.2.2.2.2.2.2.2.2.2.2.2.2.2.1,p.2.2.2.2.2.2.2.2.2.2.2.2.2.2.2.1,p.2.2.2.2.2.2.2.2.2.2.2.2.2.2.2.2.1⟩,h0.trans h1,h2⟩
def WG (x:Dy):Prop:=DE .i64 x.Object∧DE .i64 x.Player∧True
theorem a8 {n:Nat} {cs:List C} (h:BF Tryz.prog n 112 cs): ∃ x:Dy,cs=Bg x∧WG x:=by
 obtain⟨m,dss,h0,hE⟩:=Bs (ts:=[3,3]) Tryz.underlying112 rfl h
 obtain⟨p,h1,h2⟩:=(AB (dI Tryz.underlying3) (AB (dI Tryz.underlying3) HV)) hE
 exact⟨⟨p.1,p.2.1⟩,h0.trans h1,h2⟩
def UR (x:Ny):Prop:=DE .i64 x.Kind∧DE .i64 x.Source∧DE .i64 x.Object∧DE .i64 x.Player∧DE .i64 x.Amount∧DE .i64 x.From∧DE .i64 x.To∧DE .i64 x.Cause∧DE .i64 x.Counter∧DE .i64 x.Card∧Xe x.Combat∧Xe x.Tapped∧lq (DE .i64) x.Extra∧True
theorem WH {n:Nat} {cs:List C} (h:BF Tryz.prog n 55 cs): ∃ x:Ny,cs=N5 x∧UR x:=by
 obtain⟨m,dss,h0,hE⟩:=Bs (ts:=[3,3,3,3,3,3,3,3,3,3,4,4,53]) Tryz.underlying55 rfl h
 obtain⟨p,h1,h2⟩:=(AB (dI Tryz.underlying3) (AB (dI Tryz.underlying3) (AB (dI Tryz.underlying3) (AB (dI Tryz.underlying3) (AB (dI Tryz.underlying3) (AB (dI Tryz.underlying3) (AB (dI Tryz.underlying3) (AB (dI Tryz.underlying3) (AB (dI Tryz.underlying3) (AB (dI Tryz.underlying3) (AB (dB Tryz.underlying4) (AB (dB Tryz.underlying4) (AB (py Tryz.underlying53 (dI Tryz.underlying3)) HV))))))))))))) hE
 exact⟨⟨p.1,p.2.1,p.2.2.1,p.2.2.2.1,p.2.2.2.2.1,p.2.2.2.2.2.1,p.2.2.2.2.2.2.1,p.2.2.2.2.2.2.2.1,p.2.2.2.2.2.2.2.2.1,p.2.2.2.2.2.2.2.2.2.1,p.2.2.2.2.2.2.2.2.2.2.1,p.2.2.2.2.2.2.2.2.2.2.2.1,p.2.2.2.2.2.2.2.2.2.2.2.2.1⟩,h0.trans h1,h2⟩
def M0 (x:Bw):Prop:=DE .i64 x.Id∧DE .i64 x.Kind∧DE .i64 x.Source∧DE .i64 x.Control∧DE .i64 x.X∧Xe x.Copy∧Hf x.Ability∧OE 16 (WG) x.Targets∧UR x.Event∧True
theorem f8 {n:Nat} {cs:List C} (h:BF Tryz.prog n 57 cs): ∃ x:Bw,cs=An x∧M0 x:=by
 obtain⟨m,dss,h0,hE⟩:=Bs (ts:=[3,3,3,3,3,4,51,52,55]) Tryz.underlying57 rfl h
 obtain⟨p,h1,h2⟩:=(AB (dI Tryz.underlying3) (AB (dI Tryz.underlying3) (AB (dI Tryz.underlying3) (AB (dI Tryz.underlying3) (AB (dI Tryz.underlying3) (AB (dB Tryz.underlying4) (AB NX (AB (dL Tryz.underlying52 fY a8) (AB WH HV))))))))) hE
 exact⟨⟨p.1,p.2.1,p.2.2.1,p.2.2.2.1,p.2.2.2.2.1,p.2.2.2.2.2.1,p.2.2.2.2.2.2.1,p.2.2.2.2.2.2.2.1,p.2.2.2.2.2.2.2.2.1⟩,h0.trans h1,h2⟩
def K6 (x:AZ):Prop:=DE .i64 x.Source∧DE .i64 x.Control∧Hf x.Ability∧UR x.Event∧True
theorem ZA {n:Nat} {cs:List C} (h:BF Tryz.prog n 59 cs): ∃ x:AZ,cs=Ak x∧K6 x:=by
 obtain⟨m,dss,h0,hE⟩:=Bs (ts:=[3,3,51,55]) Tryz.underlying59 rfl h
 obtain⟨p,h1,h2⟩:=(AB (dI Tryz.underlying3) (AB (dI Tryz.underlying3) (AB NX (AB WH HV)))) hE
 exact⟨⟨p.1,p.2.1,p.2.2.1,p.2.2.2.1⟩,h0.trans h1,h2⟩
def Qs (x:Ci):Prop:=DE .i64 x.Stamp∧DE .i64 x.Control∧DE .i64 x.Source∧DE .i64 x.Until∧OE 8 (DE .i64) x.Objects∧OE 176 (UO) x.Mods∧True
theorem f9 {n:Nat} {cs:List C} (h:BF Tryz.prog n 61 cs): ∃ x:Ci,cs=Ar x∧Qs x:=by
 obtain⟨m,dss,h0,hE⟩:=Bs (ts:=[3,3,3,3,25,38]) Tryz.underlying61 rfl h
 obtain⟨p,h1,h2⟩:=(AB (dI Tryz.underlying3) (AB (dI Tryz.underlying3) (AB (dI Tryz.underlying3) (AB (dI Tryz.underlying3) (AB (dL Tryz.underlying25 ln (dI Tryz.underlying3)) (AB (dL Tryz.underlying38 UN XU) HV)))))) hE
 exact⟨⟨p.1,p.2.1,p.2.2.1,p.2.2.2.1,p.2.2.2.2.1,p.2.2.2.2.2.1⟩,h0.trans h1,h2⟩
def K7 (x:Aj):Prop:=OE 152 (L9) x.Players∧OE 128 (Ma) x.Objects∧OE 8 (DE .i64) x.Battlefield∧OE 8 (DE .i64) x.Exile∧OE 824 (M0) x.Stack∧OE 768 (K6) x.Waiting∧OE 80 (Qs) x.Conts∧DE .i64 x.Turn∧DE .i64 x.Active∧DE .i64 x.Step∧Xe x.Begun∧DE .i64 x.Priority∧DE .i64 x.Passes∧DE .i64 x.NextId∧DE .i64 x.NextStamp∧DE .u64 x.Seed∧OE 8 (DE .i64) x.Extra∧DE .i64 x.Over∧DE .i64 x.Winner∧True
def XW (x:EC):Prop:=M0 x.Item∧K6 x.Waiting∧Qs x.Cont∧Ma x.Object∧True
theorem ga {n:Nat} {cs:List C} (h:BF Tryz.prog n 65 cs): ∃ x:EC,cs=Eg x∧XW x:=by
 obtain⟨m,dss,h0,hE⟩:=Bs (ts:=[57,59,61,63]) Tryz.underlying65 rfl h
 obtain⟨p,h1,h2⟩:=(AB f8 (AB ZA (AB f9 (AB a7 HV)))) hE
 exact⟨⟨p.1,p.2.1,p.2.2.1,p.2.2.2.1⟩,h0.trans h1,h2⟩
end Go.PL
