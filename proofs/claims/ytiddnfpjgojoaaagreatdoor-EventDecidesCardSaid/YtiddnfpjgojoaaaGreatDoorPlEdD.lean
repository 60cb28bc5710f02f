/- Functions of the program, as partial functions in Lean, with proofs. -/
import Derived.Test.YtiddnfpjgojoaaaGreatDoorPlZtoTf
import Derived.Test.YtiddnfpjgojoaaaGreatDoorPlEdB
namespace Go.PL
open Go Go.RowKit Go.Proofs
set_option maxRecDepth 100000
set_option linter.all false
set_option maxHeartbeats 4000000
theorem PI:Tryz.prog.bytesOf 3=8:=by kernel_rfl
theorem xk:Tryz.prog.bytesOf 9=16:=by kernel_rfl
theorem uI:Tryz.prog.bytesOf 48=152:=by kernel_rfl
theorem uJ:Tryz.prog.bytesOf 61=128:=by kernel_rfl
theorem sr:Tryz.prog.bytesOf 113=640:=by kernel_rfl
theorem su:Tryz.prog.bytesOf 119=560:=by kernel_rfl
theorem sv:Tryz.prog.bytesOf 128=824:=by kernel_rfl
theorem sw:Tryz.prog.bytesOf 130=768:=by kernel_rfl
theorem sx:Tryz.prog.bytesOf 132=80:=by kernel_rfl
theorem Ym:Tryz.prog.bytesOf 151=176:=by kernel_rfl
theorem sy:Tryz.prog.bytesOf 191=144:=by kernel_rfl
theorem sA:Tryz.prog.bytesOf 252=16:=by kernel_rfl
def xl {α:Type} (ok:α→Prop) (a:A3 α):Prop:= ∀ y∈a.l,ok y
theorem zq {P:Program} {t e:TypeId} {n:Nat} {cs:List C} {α:Type} {enc:α→List C} {ok:α→Prop} (hu:P.underlying t=some (.array 3 e)) (hd: ∀ {n ds},Bh P n e ds→ ∃ x,ds=enc x∧ok x) (h:Bh P n t cs): ∃ a:A3 α,cs=xq enc a∧xl ok a:=by
 obtain⟨l,h1,h2,h3⟩:=dA hu hd h
 subst h2
 match l,h1,h3 with
 | [x0,x1,x2],_,h3=>exact⟨⟨x0,x1,x2⟩,rfl,h3⟩
def yw {α:Type} (ok:α→Prop) (a:A5 α):Prop:= ∀ y∈a.l,ok y
theorem zu {P:Program} {t e:TypeId} {n:Nat} {cs:List C} {α:Type} {enc:α→List C} {ok:α→Prop} (hu:P.underlying t=some (.array 5 e)) (hd: ∀ {n ds},Bh P n e ds→ ∃ x,ds=enc x∧ok x) (h:Bh P n t cs): ∃ a:A5 α,cs=zt enc a∧yw ok a:=by
 obtain⟨l,h1,h2,h3⟩:=dA hu hd h
 subst h2
 match l,h1,h3 with
 | [x0,x1,x2,x3,x4],_,h3=>exact⟨⟨x0,x1,x2,x3,x4⟩,rfl,h3⟩
def xm {α:Type} (ok:α→Prop) (a:A6 α):Prop:= ∀ y∈a.l,ok y
theorem zr {P:Program} {t e:TypeId} {n:Nat} {cs:List C} {α:Type} {enc:α→List C} {ok:α→Prop} (hu:P.underlying t=some (.array 6 e)) (hd: ∀ {n ds},Bh P n e ds→ ∃ x,ds=enc x∧ok x) (h:Bh P n t cs): ∃ a:A6 α,cs=yb enc a∧xm ok a:=by
 obtain⟨l,h1,h2,h3⟩:=dA hu hd h
 subst h2
 match l,h1,h3 with
 | [x0,x1,x2,x3,x4,x5],_,h3=>exact⟨⟨x0,x1,x2,x3,x4,x5⟩,rfl,h3⟩
def ej (x:Bs):Prop:=Cp .i64 x.Generic∧Cp .i64 x.X∧yw (Cp .i64) x.Color∧True
theorem iV {n:Nat} {cs:List C} (h:Bh Tryz.prog n 64 cs): ∃ x:Bs,cs=Gy x∧ej x:=by
 obtain⟨m,dss,h0,hE⟩:=A7 (ts:=[3,3,62]) Tryz.underlying64 rfl h
 obtain⟨p,h1,h2⟩:=(Aq (dI Tryz.underlying3) (Aq (dI Tryz.underlying3) (Aq (zu Tryz.underlying62 (dI Tryz.underlying3)) El))) hE
 exact⟨⟨p.1,p.2.1,p.2.2.1⟩,h0.trans h1,h2⟩
def ek (x:BZ):Prop:=Cp .i64 x.Super∧Cp .i64 x.Types∧YF 16 (uU) x.Subs∧True
theorem sB {n:Nat} {cs:List C} (h:Bh Tryz.prog n 67 cs): ∃ x:BZ,cs=Dl x∧ek x:=by
 obtain⟨m,dss,h0,hE⟩:=A7 (ts:=[3,3,65]) Tryz.underlying67 rfl h
 obtain⟨p,h1,h2⟩:=(Aq (dI Tryz.underlying3) (Aq (dI Tryz.underlying3) (Aq (dL Tryz.underlying65 xk (dS Tryz.underlying9)) El))) hE
 exact⟨⟨p.1,p.2.1,p.2.2.1⟩,h0.trans h1,h2⟩
def RH (x:Az):Prop:=Cp .i64 x.Kind∧Cp .i64 x.N∧True
theorem SY {n:Nat} {cs:List C} (h:Bh Tryz.prog n 90 cs): ∃ x:Az,cs=aW x∧RH x:=by
 obtain⟨m,dss,h0,hE⟩:=A7 (ts:=[3,3]) Tryz.underlying90 rfl h
 obtain⟨p,h1,h2⟩:=(Aq (dI Tryz.underlying3) (Aq (dI Tryz.underlying3) El)) hE
 exact⟨⟨p.1,p.2.1⟩,h0.trans h1,h2⟩
def DD (x:Ar):Prop:=Cp .i64 x.Zone∧Cp .i64 x.Who∧Cp .i64 x.Self∧Cp .i64 x.Types∧Cp .i64 x.NotTypes∧Cp .i64 x.Colors∧Cp .i64 x.NotColors∧uU x.Sub∧Cp .i64 x.Keys∧Cp .i64 x.Tap∧RH x.Power∧RH x.Tough∧RH x.Value∧True
theorem D7 {n:Nat} {cs:List C} (h:Bh Tryz.prog n 92 cs): ∃ x:Ar,cs=B0 x∧DD x:=by
 obtain⟨m,dss,h0,hE⟩:=A7 (ts:=[3,3,3,3,3,3,3,9,3,3,90,90,90]) Tryz.underlying92 rfl h
 obtain⟨p,h1,h2⟩:=(Aq (dI Tryz.underlying3) (Aq (dI Tryz.underlying3) (Aq (dI Tryz.underlying3) (Aq (dI Tryz.underlying3) (Aq (dI Tryz.underlying3) (Aq (dI Tryz.underlying3) (Aq (dI Tryz.underlying3) (Aq (dS Tryz.underlying9) (Aq (dI Tryz.underlying3) (Aq (dI Tryz.underlying3) (Aq SY (Aq SY (Aq SY El))))))))))))) hE
 exact⟨⟨p.1,p.2.1,p.2.2.1,p.2.2.2.1,p.2.2.2.2.1,p.2.2.2.2.2.1,p.2.2.2.2.2.2.1,p.2.2.2.2.2.2.2.1,p.2.2.2.2.2.2.2.2.1,p.2.2.2.2.2.2.2.2.2.1,p.2.2.2.2.2.2.2.2.2.2.1,p.2.2.2.2.2.2.2.2.2.2.2.1,p.2.2.2.2.2.2.2.2.2.2.2.2.1⟩,h0.trans h1,h2⟩
def Yn (x:BI):Prop:=Cp .i64 x.Kind∧Cp .i64 x.N∧Cp .i64 x.M∧uU x.Sub∧DD x.Filter∧True
theorem em {n:Nat} {cs:List C} (h:Bh Tryz.prog n 151 cs): ∃ x:BI,cs=Bg x∧Yn x:=by
 obtain⟨m,dss,h0,hE⟩:=A7 (ts:=[3,3,3,9,92]) Tryz.underlying151 rfl h
 obtain⟨p,h1,h2⟩:=(Aq (dI Tryz.underlying3) (Aq (dI Tryz.underlying3) (Aq (dI Tryz.underlying3) (Aq (dS Tryz.underlying9) (Aq D7 El))))) hE
 exact⟨⟨p.1,p.2.1,p.2.2.1,p.2.2.2.1,p.2.2.2.2.1⟩,h0.trans h1,h2⟩
def iW (x:EG):Prop:=ej x.Mana∧cv x.Tap∧cv x.Sacrifice∧Cp .i64 x.Life∧True
theorem pL {n:Nat} {cs:List C} (h:Bh Tryz.prog n 105 cs): ∃ x:EG,cs=J4 x∧iW x:=by
 obtain⟨m,dss,h0,hE⟩:=A7 (ts:=[64,4,4,3]) Tryz.underlying105 rfl h
 obtain⟨p,h1,h2⟩:=(Aq iV (Aq (dB Tryz.underlying4) (Aq (dB Tryz.underlying4) (Aq (dI Tryz.underlying3) El)))) hE
 exact⟨⟨p.1,p.2.1,p.2.2.1,p.2.2.2.1⟩,h0.trans h1,h2⟩
def PJ (x:B1):Prop:=Cp .i64 x.When∧Cp .i64 x.Who∧DD x.Filter∧True
theorem iX {n:Nat} {cs:List C} (h:Bh Tryz.prog n 107 cs): ∃ x:B1,cs=Gz x∧PJ x:=by
 obtain⟨m,dss,h0,hE⟩:=A7 (ts:=[3,3,92]) Tryz.underlying107 rfl h
 obtain⟨p,h1,h2⟩:=(Aq (dI Tryz.underlying3) (Aq (dI Tryz.underlying3) (Aq D7 El))) hE
 exact⟨⟨p.1,p.2.1,p.2.2.1⟩,h0.trans h1,h2⟩
def ep (x:DF):Prop:=cv x.Player∧cv x.Object∧DD x.Filter∧True
theorem sC {n:Nat} {cs:List C} (h:Bh Tryz.prog n 191 cs): ∃ x:DF,cs=B7 x∧ep x:=by
 obtain⟨m,dss,h0,hE⟩:=A7 (ts:=[4,4,92]) Tryz.underlying191 rfl h
 obtain⟨p,h1,h2⟩:=(Aq (dB Tryz.underlying4) (Aq (dB Tryz.underlying4) (Aq D7 El))) hE
 exact⟨⟨p.1,p.2.1,p.2.2.1⟩,h0.trans h1,h2⟩
def mi (x:KQ):Prop:=Cp .i64 x.Kind∧Cp .i64 x.N∧DD x.Filter∧True
theorem uK {n:Nat} {cs:List C} (h:Bh Tryz.prog n 115 cs): ∃ x:KQ,cs=Qu x∧mi x:=by
 obtain⟨m,dss,h0,hE⟩:=A7 (ts:=[3,3,92]) Tryz.underlying115 rfl h
 obtain⟨p,h1,h2⟩:=(Aq (dI Tryz.underlying3) (Aq (dI Tryz.underlying3) (Aq D7 El))) hE
 exact⟨⟨p.1,p.2.1,p.2.2.1⟩,h0.trans h1,h2⟩
def SZ (x:Cd):Prop:=Cp .i64 x.Kind∧Cp .i64 x.N∧Cp .i64 x.Counter∧DD x.Filter∧True
theorem mj {n:Nat} {cs:List C} (h:Bh Tryz.prog n 117 cs): ∃ x:Cd,cs=H4 x∧SZ x:=by
 obtain⟨m,dss,h0,hE⟩:=A7 (ts:=[3,3,3,92]) Tryz.underlying117 rfl h
 obtain⟨p,h1,h2⟩:=(Aq (dI Tryz.underlying3) (Aq (dI Tryz.underlying3) (Aq (dI Tryz.underlying3) (Aq D7 El)))) hE
 exact⟨⟨p.1,p.2.1,p.2.2.1,p.2.2.2.1⟩,h0.trans h1,h2⟩
def S0 (x:AV):Prop:=Cp .i64 x.Op∧mi x.Ref∧SZ x.Amount∧Cp .i64 x.Counter∧Cp .i64 x.Zone∧uU x.Card∧DD x.Filter∧xm (Cp .i64) x.Pool∧YF 176 (Yn) x.Mods∧True
theorem ml {n:Nat} {cs:List C} (h:Bh Tryz.prog n 119 cs): ∃ x:AV,cs=Bq x∧S0 x:=by
 obtain⟨m,dss,h0,hE⟩:=A7 (ts:=[3,115,117,3,3,9,92,46,93]) Tryz.underlying119 rfl h
 obtain⟨p,h1,h2⟩:=(Aq (dI Tryz.underlying3) (Aq uK (Aq mj (Aq (dI Tryz.underlying3) (Aq (dI Tryz.underlying3) (Aq (dS Tryz.underlying9) (Aq D7 (Aq (zr Tryz.underlying46 (dI Tryz.underlying3)) (Aq (dL Tryz.underlying93 Ym em) El))))))))) hE
 exact⟨⟨p.1,p.2.1,p.2.2.1,p.2.2.2.1,p.2.2.2.2.1,p.2.2.2.2.2.1,p.2.2.2.2.2.2.1,p.2.2.2.2.2.2.2.1,p.2.2.2.2.2.2.2.2.1⟩,h0.trans h1,h2⟩
def PM (x:BB):Prop:=Cp .i64 x.On∧Cp .i64 x.Who∧DD x.Filter∧Cp .i64 x.Do∧Cp .i64 x.N∧Cp .i64 x.Zone∧Cp .i64 x.Counter∧True
theorem iY {n:Nat} {cs:List C} (h:Bh Tryz.prog n 111 cs): ∃ x:BB,cs=GA x∧PM x:=by
 obtain⟨m,dss,h0,hE⟩:=A7 (ts:=[3,3,92,3,3,3,3]) Tryz.underlying111 rfl h
 obtain⟨p,h1,h2⟩:=(Aq (dI Tryz.underlying3) (Aq (dI Tryz.underlying3) (Aq D7 (Aq (dI Tryz.underlying3) (Aq (dI Tryz.underlying3) (Aq (dI Tryz.underlying3) (Aq (dI Tryz.underlying3) El))))))) hE
 exact⟨⟨p.1,p.2.1,p.2.2.1,p.2.2.2.1,p.2.2.2.2.1,p.2.2.2.2.2.1,p.2.2.2.2.2.2.1⟩,h0.trans h1,h2⟩
def Iz (x:Aw):Prop:=Cp .i64 x.Kind∧DD x.Filter∧YF 176 (Yn) x.Mods∧iW x.Price∧cv x.Slow∧PJ x.Trigger∧cv x.May∧YF 144 (ep) x.Specs∧YF 560 (S0) x.Effects∧PM x.Replace∧True
theorem Nl {n:Nat} {cs:List C} (h:Bh Tryz.prog n 113 cs): ∃ x:Aw,cs=AF x∧Iz x:=by
 obtain⟨m,dss,h0,hE⟩:=A7 (ts:=[3,92,93,105,4,107,4,108,109,111]) Tryz.underlying113 rfl h
 obtain⟨p,h1,h2⟩:=(Aq (dI Tryz.underlying3) (Aq D7 (Aq (dL Tryz.underlying93 Ym em) (Aq pL (Aq (dB Tryz.underlying4) (Aq iX (Aq (dB Tryz.underlying4) (Aq (dL Tryz.underlying108 sy sC) (Aq (dL Tryz.underlying109 su ml) (Aq iY El)))))))))) hE
 exact⟨⟨p.1,p.2.1,p.2.2.1,p.2.2.2.1,p.2.2.2.2.1,p.2.2.2.2.2.1,p.2.2.2.2.2.2.1,p.2.2.2.2.2.2.2.1,p.2.2.2.2.2.2.2.2.1,p.2.2.2.2.2.2.2.2.2.1⟩,h0.trans h1,h2⟩
def nP (x:A1):Prop:=uU x.Name∧cv x.Token∧ej x.Cost∧Cp .i64 x.Color∧ek x.Line∧Cp .i64 x.Power∧Cp .i64 x.Tough∧Cp .i64 x.Keys∧YF 640 (Iz) x.Abilities∧True
theorem sD {n:Nat} {cs:List C} (h:Bh Tryz.prog n 73 cs): ∃ x:A1,cs=B8 x∧nP x:=by
 obtain⟨m,dss,h0,hE⟩:=A7 (ts:=[9,4,64,3,67,3,3,3,68]) Tryz.underlying73 rfl h
 obtain⟨p,h1,h2⟩:=(Aq (dS Tryz.underlying9) (Aq (dB Tryz.underlying4) (Aq iV (Aq (dI Tryz.underlying3) (Aq sB (Aq (dI Tryz.underlying3) (Aq (dI Tryz.underlying3) (Aq (dI Tryz.underlying3) (Aq (dL Tryz.underlying68 sr Nl) El))))))))) hE
 exact⟨⟨p.1,p.2.1,p.2.2.1,p.2.2.2.1,p.2.2.2.2.1,p.2.2.2.2.2.1,p.2.2.2.2.2.2.1,p.2.2.2.2.2.2.2.1,p.2.2.2.2.2.2.2.2.1⟩,h0.trans h1,h2⟩
def S1 (x:Bw):Prop:=Cp .i64 x.Life∧Cp .i64 x.Venom∧Cp .i64 x.Lands∧xm (Cp .i64) x.Pool∧cv x.Failed∧cv x.Lost∧YF 8 (Cp .i64) x.Library∧YF 8 (Cp .i64) x.Hand∧YF 8 (Cp .i64) x.Graveyard∧True
theorem mm {n:Nat} {cs:List C} (h:Bh Tryz.prog n 48 cs): ∃ x:Bw,cs=Ay x∧S1 x:=by
 obtain⟨m,dss,h0,hE⟩:=A7 (ts:=[3,3,3,46,4,4,25,25,25]) Tryz.underlying48 rfl h
 obtain⟨p,h1,h2⟩:=(Aq (dI Tryz.underlying3) (Aq (dI Tryz.underlying3) (Aq (dI Tryz.underlying3) (Aq (zr Tryz.underlying46 (dI Tryz.underlying3)) (Aq (dB Tryz.underlying4) (Aq (dB Tryz.underlying4) (Aq (dL Tryz.underlying25 PI (dI Tryz.underlying3)) (Aq (dL Tryz.underlying25 PI (dI Tryz.underlying3)) (Aq (dL Tryz.underlying25 PI (dI Tryz.underlying3)) El))))))))) hE
 exact⟨⟨p.1,p.2.1,p.2.2.1,p.2.2.2.1,p.2.2.2.2.1,p.2.2.2.2.2.1,p.2.2.2.2.2.2.1,p.2.2.2.2.2.2.2.1,p.2.2.2.2.2.2.2.2.1⟩,h0.trans h1,h2⟩
def bI (x:AO):Prop:=Cp .i64 x.Id∧Cp .i64 x.Card∧Cp .i64 x.Owner∧Cp .i64 x.Control∧Cp .i64 x.Zone∧cv x.Token∧cv x.Tapped∧cv x.Sick∧cv x.Deadly∧Cp .i64 x.Damage∧xl (Cp .i64) x.Counters∧Cp .i64 x.Stamp∧Cp .i64 x.Copy∧Cp .i64 x.Attack∧cv x.Blocked∧Cp .i64 x.Blocks∧Cp .i64 x.Shield∧True
theorem mn {n:Nat} {cs:List C} (h:Bh Tryz.prog n 61 cs): ∃ x:AO,cs=Ai x∧bI x:=by
 obtain⟨m,dss,h0,hE⟩:=A7 (ts:=[3,3,3,3,3,4,4,4,4,3,32,3,3,3,4,3,3]) Tryz.underlying61 rfl h
 obtain⟨p,h1,h2⟩:=(Aq (dI Tryz.underlying3) (Aq (dI Tryz.underlying3) (Aq (dI Tryz.underlying3) (Aq (dI Tryz.underlying3) (Aq (dI Tryz.underlying3) (Aq (dB Tryz.underlying4) (Aq (dB Tryz.underlying4) (Aq (dB Tryz.underlying4) (Aq (dB Tryz.underlying4) (Aq (dI Tryz.underlying3) (Aq (zq Tryz.underlying32 (dI Tryz.underlying3)) (Aq (dI Tryz.underlying3) (Aq (dI Tryz.underlying3) (Aq (dI Tryz.underlying3) (Aq (dB Tryz.underlying4) (Aq (dI Tryz.underlying3) (Aq (dI Tryz.underlying3) El))))))))))))))))) hE
 exact⟨⟨p.1,p.2.1,p.2.2.1,p.2.2.2.1,p.2.2.2.2.1,p.2.2.2.2.2.1,p.2.2.2.2.2.2.1,p.2.2.2.2.2.2.2.1,p.2.2.2.2.2.2.2.2.1,p.2.2.2.2.2.2.2.2.2.1,p.2.2.2.2.2.2.2.2.2.2.1,p.2.2.2.2.2.2.2.2.2.2.2.1,p.2.2.2.2.2.2.2.2.2.2.2.2.1,p.2.2.2.2.2.2.2.2.2.2.2.2.2.1,p.2.2.2.2.2.2.2.2.2.2.2.2.2.2.1,p.2.2.2.2.2.2.2.2.2.2.2.2.2.2.2.1,p.2.2.2.2.2.2.2.2.2.2.2.2.2.2.2.2.1⟩,h0.trans h1,h2⟩
def bJ (x:KR):Prop:=Cp .i64 x.Object∧Cp .i64 x.Player∧True
theorem mo {n:Nat} {cs:List C} (h:Bh Tryz.prog n 252 cs): ∃ x:KR,cs=Pw x∧bJ x:=by
 obtain⟨m,dss,h0,hE⟩:=A7 (ts:=[3,3]) Tryz.underlying252 rfl h
 obtain⟨p,h1,h2⟩:=(Aq (dI Tryz.underlying3) (Aq (dI Tryz.underlying3) El)) hE
 exact⟨⟨p.1,p.2.1⟩,h0.trans h1,h2⟩
def Yo (x:Be):Prop:=Cp .i64 x.Kind∧Cp .i64 x.Source∧Cp .i64 x.Object∧Cp .i64 x.Player∧Cp .i64 x.Amount∧Cp .i64 x.From∧Cp .i64 x.To∧Cp .i64 x.Cause∧Cp .i64 x.Counter∧Cp .i64 x.Card∧cv x.Combat∧cv x.Tapped∧xl (Cp .i64) x.Extra∧True
theorem S2 {n:Nat} {cs:List C} (h:Bh Tryz.prog n 34 cs): ∃ x:Be,cs=FK x∧Yo x:=by
 obtain⟨m,dss,h0,hE⟩:=A7 (ts:=[3,3,3,3,3,3,3,3,3,3,4,4,32]) Tryz.underlying34 rfl h
 obtain⟨p,h1,h2⟩:=(Aq (dI Tryz.underlying3) (Aq (dI Tryz.underlying3) (Aq (dI Tryz.underlying3) (Aq (dI Tryz.underlying3) (Aq (dI Tryz.underlying3) (Aq (dI Tryz.underlying3) (Aq (dI Tryz.underlying3) (Aq (dI Tryz.underlying3) (Aq (dI Tryz.underlying3) (Aq (dI Tryz.underlying3) (Aq (dB Tryz.underlying4) (Aq (dB Tryz.underlying4) (Aq (zq Tryz.underlying32 (dI Tryz.underlying3)) El))))))))))))) hE
 exact⟨⟨p.1,p.2.1,p.2.2.1,p.2.2.2.1,p.2.2.2.2.1,p.2.2.2.2.2.1,p.2.2.2.2.2.2.1,p.2.2.2.2.2.2.2.1,p.2.2.2.2.2.2.2.2.1,p.2.2.2.2.2.2.2.2.2.1,p.2.2.2.2.2.2.2.2.2.2.1,p.2.2.2.2.2.2.2.2.2.2.2.1,p.2.2.2.2.2.2.2.2.2.2.2.2.1⟩,h0.trans h1,h2⟩
def eu (x:H6):Prop:=Cp .i64 x.Id∧Cp .i64 x.Kind∧Cp .i64 x.Source∧Cp .i64 x.Control∧Cp .i64 x.X∧cv x.Copy∧Iz x.Ability∧YF 16 (bJ) x.Targets∧Yo x.Event∧True
theorem sE {n:Nat} {cs:List C} (h:Bh Tryz.prog n 128 cs): ∃ x:H6,cs=Bn x∧eu x:=by
 obtain⟨m,dss,h0,hE⟩:=A7 (ts:=[3,3,3,3,3,4,113,126,34]) Tryz.underlying128 rfl h
 obtain⟨p,h1,h2⟩:=(Aq (dI Tryz.underlying3) (Aq (dI Tryz.underlying3) (Aq (dI Tryz.underlying3) (Aq (dI Tryz.underlying3) (Aq (dI Tryz.underlying3) (Aq (dB Tryz.underlying4) (Aq Nl (Aq (dL Tryz.underlying126 sA mo) (Aq S2 El))))))))) hE
 exact⟨⟨p.1,p.2.1,p.2.2.1,p.2.2.2.1,p.2.2.2.2.1,p.2.2.2.2.2.1,p.2.2.2.2.2.2.1,p.2.2.2.2.2.2.2.1,p.2.2.2.2.2.2.2.2.1⟩,h0.trans h1,h2⟩
def PN (x:C0):Prop:=Cp .i64 x.Source∧Cp .i64 x.Control∧Iz x.Ability∧Yo x.Event∧True
theorem iZ {n:Nat} {cs:List C} (h:Bh Tryz.prog n 130 cs): ∃ x:C0,cs=AS x∧PN x:=by
 obtain⟨m,dss,h0,hE⟩:=A7 (ts:=[3,3,113,34]) Tryz.underlying130 rfl h
 obtain⟨p,h1,h2⟩:=(Aq (dI Tryz.underlying3) (Aq (dI Tryz.underlying3) (Aq Nl (Aq S2 El)))) hE
 exact⟨⟨p.1,p.2.1,p.2.2.1,p.2.2.2.1⟩,h0.trans h1,h2⟩
def ew (x:IX):Prop:=Cp .i64 x.Stamp∧Cp .i64 x.Control∧Cp .i64 x.Source∧Cp .i64 x.Until∧YF 8 (Cp .i64) x.Objects∧YF 176 (Yn) x.Mods∧True
theorem sF {n:Nat} {cs:List C} (h:Bh Tryz.prog n 132 cs): ∃ x:IX,cs=Bo x∧ew x:=by
 obtain⟨m,dss,h0,hE⟩:=A7 (ts:=[3,3,3,3,25,93]) Tryz.underlying132 rfl h
 obtain⟨p,h1,h2⟩:=(Aq (dI Tryz.underlying3) (Aq (dI Tryz.underlying3) (Aq (dI Tryz.underlying3) (Aq (dI Tryz.underlying3) (Aq (dL Tryz.underlying25 PI (dI Tryz.underlying3)) (Aq (dL Tryz.underlying93 Ym em) El)))))) hE
 exact⟨⟨p.1,p.2.1,p.2.2.1,p.2.2.2.1,p.2.2.2.2.1,p.2.2.2.2.2.1⟩,h0.trans h1,h2⟩
def i6 (x:Ao):Prop:=YF 152 (S1) x.Players∧YF 128 (bI) x.Objects∧YF 8 (Cp .i64) x.Battlefield∧YF 8 (Cp .i64) x.Exile∧YF 824 (eu) x.Stack∧YF 768 (PN) x.Waiting∧YF 80 (ew) x.Conts∧Cp .i64 x.Turn∧Cp .i64 x.Active∧Cp .i64 x.Step∧cv x.Begun∧Cp .i64 x.Priority∧Cp .i64 x.Passes∧Cp .i64 x.NextId∧Cp .i64 x.NextStamp∧Cp .u64 x.Seed∧YF 8 (Cp .i64) x.Extra∧Cp .i64 x.Over∧Cp .i64 x.Winner∧True
theorem pM {n:Nat} {cs:List C} (h:Bh Tryz.prog n 31 cs): ∃ x:Ao,cs=A4 x∧i6 x:=by
 obtain⟨m,dss,h0,hE⟩:=A7 (ts:=[23,24,25,25,26,27,28,3,3,3,4,3,3,3,3,29,25,3,3]) Tryz.underlying31 rfl h
 obtain⟨p,h1,h2⟩:=(Aq (dL Tryz.underlying23 uI mm) (Aq (dL Tryz.underlying24 uJ mn) (Aq (dL Tryz.underlying25 PI (dI Tryz.underlying3)) (Aq (dL Tryz.underlying25 PI (dI Tryz.underlying3)) (Aq (dL Tryz.underlying26 sv sE) (Aq (dL Tryz.underlying27 sw iZ) (Aq (dL Tryz.underlying28 sx sF) (Aq (dI Tryz.underlying3) (Aq (dI Tryz.underlying3) (Aq (dI Tryz.underlying3) (Aq (dB Tryz.underlying4) (Aq (dI Tryz.underlying3) (Aq (dI Tryz.underlying3) (Aq (dI Tryz.underlying3) (Aq (dI Tryz.underlying3) (Aq (dI Tryz.underlying29) (Aq (dL Tryz.underlying25 PI (dI Tryz.underlying3)) (Aq (dI Tryz.underlying3) (Aq (dI Tryz.underlying3) El))))))))))))))))))) hE
 exact⟨⟨p.1,p.2.1,p.2.2.1,p.2.2.2.1,p.2.2.2.2.1,p.2.2.2.2.2.1,p.2.2.2.2.2.2.1,p.2.2.2.2.2.2.2.1,p.2.2.2.2.2.2.2.2.1,p.2.2.2.2.2.2.2.2.2.1,p.2.2.2.2.2.2.2.2.2.2.1,p.2.2.2.2.2.2.2.2.2.2.2.1,p.2.2.2.2.2.2.2.2.2.2.2.2.1,p.2.2.2.2.2.2.2.2.2.2.2.2.2.1,p.2.2.2.2.2.2.2.2.2.2.2.2.2.2.1,p.2.2.2.2.2.2.2.2.2.2.2.2.2.2.2.1,p.2.2.2.2.2.2.2.2.2.2.2.2.2.2.2.2.1,p.2.2.2.2.2.2.2.2.2.2.2.2.2.2.2.2.2.1,p.2.2.2.2.2.2.2.2.2.2.2.2.2.2.2.2.2.2.1⟩,h0.trans h1,h2⟩
end Go.PL
