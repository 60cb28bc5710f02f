/- Functions of the program, as partial functions in Lean, with proofs. -/
import Derived.Test.YtelbpfkjhndccaaGreatDoorPlOtoPlPj
import Derived.Test.YtelbpfkjhndccaaGreatDoorPlSbB
namespace Go.PL
open Go Go.RowKit Go.Proofs
set_option maxRecDepth 100000
set_option linter.all false
set_option maxHeartbeats 4000000
theorem R8:Tryz.prog.bytesOf 3=8:=by kernel_rfl
theorem rH:Tryz.prog.bytesOf 9=16:=by kernel_rfl
theorem oI:Tryz.prog.bytesOf 51=640:=by kernel_rfl
theorem oJ:Tryz.prog.bytesOf 57=824:=by kernel_rfl
theorem oK:Tryz.prog.bytesOf 59=768:=by kernel_rfl
theorem oL:Tryz.prog.bytesOf 61=80:=by kernel_rfl
theorem oM:Tryz.prog.bytesOf 63=128:=by kernel_rfl
theorem oN:Tryz.prog.bytesOf 73=152:=by kernel_rfl
theorem W9:Tryz.prog.bytesOf 107=176:=by kernel_rfl
theorem mK:Tryz.prog.bytesOf 109=144:=by kernel_rfl
theorem mL:Tryz.prog.bytesOf 112=16:=by kernel_rfl
theorem mM:Tryz.prog.bytesOf 141=560:=by kernel_rfl
def rJ {α:Type} (ok:α→Prop) (a:A3 α):Prop:= ∀ y∈a.l,ok y
theorem u6 {P:Program} {t e:TypeId} {n:Nat} {cs:List C} {α:Type} {enc:α→List C} {ok:α→Prop} (hu:P.underlying t=some (.array 3 e)) (hd: ∀ {n ds},BK P n e ds→ ∃ x,ds=enc x∧ok x) (h:BK P n t cs): ∃ a:A3 α,cs=UM enc a∧rJ ok a:=by
 obtain⟨l,h1,h2,h3⟩:=dA hu hd h
 subst h2
 match l,h1,h3 with
 | [x0,x1,x2],_,h3=>exact⟨⟨x0,x1,x2⟩,rfl,h3⟩
def tz {α:Type} (ok:α→Prop) (a:A5 α):Prop:= ∀ y∈a.l,ok y
theorem vl {P:Program} {t e:TypeId} {n:Nat} {cs:List C} {α:Type} {enc:α→List C} {ok:α→Prop} (hu:P.underlying t=some (.array 5 e)) (hd: ∀ {n ds},BK P n e ds→ ∃ x,ds=enc x∧ok x) (h:BK P n t cs): ∃ a:A5 α,cs=nl enc a∧tz ok a:=by
 obtain⟨l,h1,h2,h3⟩:=dA hu hd h
 subst h2
 match l,h1,h3 with
 | [x0,x1,x2,x3,x4],_,h3=>exact⟨⟨x0,x1,x2,x3,x4⟩,rfl,h3⟩
def rK {α:Type} (ok:α→Prop) (a:A6 α):Prop:= ∀ y∈a.l,ok y
theorem u7 {P:Program} {t e:TypeId} {n:Nat} {cs:List C} {α:Type} {enc:α→List C} {ok:α→Prop} (hu:P.underlying t=some (.array 6 e)) (hd: ∀ {n ds},BK P n e ds→ ∃ x,ds=enc x∧ok x) (h:BK P n t cs): ∃ a:A6 α,cs=QY enc a∧rK ok a:=by
 obtain⟨l,h1,h2,h3⟩:=dA hu hd h
 subst h2
 match l,h1,h3 with
 | [x0,x1,x2,x3,x4,x5],_,h3=>exact⟨⟨x0,x1,x2,x3,x4,x5⟩,rfl,h3⟩
def aj (x:AP):Prop:=Ev .i64 x.Generic∧Ev .i64 x.X∧tz (Ev .i64) x.Color∧True
theorem dk {n:Nat} {cs:List C} (h:BK Tryz.prog n 41 cs): ∃ x:AP,cs=Bu x∧aj x:=by
 obtain⟨m,dss,h0,hE⟩:=Bv (ts:=[3,3,39]) Tryz.underlying41 rfl h
 obtain⟨p,h1,h2⟩:=(Av (dI Tryz.underlying3) (Av (dI Tryz.underlying3) (Av (vl Tryz.underlying39 (dI Tryz.underlying3)) I2))) hE
 exact⟨⟨p.1,p.2.1,p.2.2.1⟩,h0.trans h1,h2⟩
def ix (x:gX):Prop:=Ev .i64 x.Super∧Ev .i64 x.Types∧SA 16 (sb) x.Subs∧True
theorem mN {n:Nat} {cs:List C} (h:BK Tryz.prog n 267 cs): ∃ x:gX,cs=lr x∧ix x:=by
 obtain⟨m,dss,h0,hE⟩:=Bv (ts:=[3,3,149]) Tryz.underlying267 rfl h
 obtain⟨p,h1,h2⟩:=(Av (dI Tryz.underlying3) (Av (dI Tryz.underlying3) (Av (dL Tryz.underlying149 rH (dS Tryz.underlying9)) I2))) hE
 exact⟨⟨p.1,p.2.1,p.2.2.1⟩,h0.trans h1,h2⟩
def S4 (x:Ac):Prop:=Ev .i64 x.Kind∧Ev .i64 x.N∧True
theorem Ub {n:Nat} {cs:List C} (h:BK Tryz.prog n 35 cs): ∃ x:Ac,cs=CK x∧S4 x:=by
 obtain⟨m,dss,h0,hE⟩:=Bv (ts:=[3,3]) Tryz.underlying35 rfl h
 obtain⟨p,h1,h2⟩:=(Av (dI Tryz.underlying3) (Av (dI Tryz.underlying3) I2)) hE
 exact⟨⟨p.1,p.2.1⟩,h0.trans h1,h2⟩
def IZ (x:Ag):Prop:=Ev .i64 x.Zone∧Ev .i64 x.Who∧Ev .i64 x.Self∧Ev .i64 x.Types∧Ev .i64 x.NotTypes∧Ev .i64 x.Colors∧Ev .i64 x.NotColors∧sb x.Sub∧Ev .i64 x.Keys∧Ev .i64 x.Tap∧S4 x.Power∧S4 x.Tough∧S4 x.Value∧True
theorem H5 {n:Nat} {cs:List C} (h:BK Tryz.prog n 37 cs): ∃ x:Ag,cs=As x∧IZ x:=by
 obtain⟨m,dss,h0,hE⟩:=Bv (ts:=[3,3,3,3,3,3,3,9,3,3,35,35,35]) Tryz.underlying37 rfl h
 obtain⟨p,h1,h2⟩:=(Av (dI Tryz.underlying3) (Av (dI Tryz.underlying3) (Av (dI Tryz.underlying3) (Av (dI Tryz.underlying3) (Av (dI Tryz.underlying3) (Av (dI Tryz.underlying3) (Av (dI Tryz.underlying3) (Av (dS Tryz.underlying9) (Av (dI Tryz.underlying3) (Av (dI Tryz.underlying3) (Av Ub (Av Ub (Av Ub I2))))))))))))) hE
 exact⟨⟨p.1,p.2.1,p.2.2.1,p.2.2.2.1,p.2.2.2.2.1,p.2.2.2.2.2.1,p.2.2.2.2.2.2.1,p.2.2.2.2.2.2.2.1,p.2.2.2.2.2.2.2.2.1,p.2.2.2.2.2.2.2.2.2.1,p.2.2.2.2.2.2.2.2.2.2.1,p.2.2.2.2.2.2.2.2.2.2.2.1,p.2.2.2.2.2.2.2.2.2.2.2.2.1⟩,h0.trans h1,h2⟩
def Xa (x:Bq):Prop:=Ev .i64 x.Kind∧Ev .i64 x.N∧Ev .i64 x.M∧sb x.Sub∧IZ x.Filter∧True
theorem ak {n:Nat} {cs:List C} (h:BK Tryz.prog n 107 cs): ∃ x:Bq,cs=Ao x∧Xa x:=by
 obtain⟨m,dss,h0,hE⟩:=Bv (ts:=[3,3,3,9,37]) Tryz.underlying107 rfl h
 obtain⟨p,h1,h2⟩:=(Av (dI Tryz.underlying3) (Av (dI Tryz.underlying3) (Av (dI Tryz.underlying3) (Av (dS Tryz.underlying9) (Av H5 I2))))) hE
 exact⟨⟨p.1,p.2.1,p.2.2.1,p.2.2.2.1,p.2.2.2.2.1⟩,h0.trans h1,h2⟩
def dl (x:B5):Prop:=aj x.Mana∧Zj x.Tap∧Zj x.Sacrifice∧Ev .i64 x.Life∧True
theorem kb {n:Nat} {cs:List C} (h:BK Tryz.prog n 43 cs): ∃ x:B5,cs=H8 x∧dl x:=by
 obtain⟨m,dss,h0,hE⟩:=Bv (ts:=[41,4,4,3]) Tryz.underlying43 rfl h
 obtain⟨p,h1,h2⟩:=(Av dk (Av (dB Tryz.underlying4) (Av (dB Tryz.underlying4) (Av (dI Tryz.underlying3) I2)))) hE
 exact⟨⟨p.1,p.2.1,p.2.2.1,p.2.2.2.1⟩,h0.trans h1,h2⟩
def Xb (x:Bs):Prop:=Ev .i64 x.When∧Ev .i64 x.Who∧IZ x.Filter∧True
theorem dm {n:Nat} {cs:List C} (h:BK Tryz.prog n 45 cs): ∃ x:Bs,cs=Fs x∧Xb x:=by
 obtain⟨m,dss,h0,hE⟩:=Bv (ts:=[3,3,37]) Tryz.underlying45 rfl h
 obtain⟨p,h1,h2⟩:=(Av (dI Tryz.underlying3) (Av (dI Tryz.underlying3) (Av H5 I2))) hE
 exact⟨⟨p.1,p.2.1,p.2.2.1⟩,h0.trans h1,h2⟩
def al (x:CA):Prop:=Zj x.Player∧Zj x.Object∧IZ x.Filter∧True
theorem mO {n:Nat} {cs:List C} (h:BK Tryz.prog n 109 cs): ∃ x:CA,cs=AZ x∧al x:=by
 obtain⟨m,dss,h0,hE⟩:=Bv (ts:=[4,4,37]) Tryz.underlying109 rfl h
 obtain⟨p,h1,h2⟩:=(Av (dB Tryz.underlying4) (Av (dB Tryz.underlying4) (Av H5 I2))) hE
 exact⟨⟨p.1,p.2.1,p.2.2.1⟩,h0.trans h1,h2⟩
def mP (x:HQ):Prop:=Ev .i64 x.Kind∧Ev .i64 x.N∧IZ x.Filter∧True
theorem oO {n:Nat} {cs:List C} (h:BK Tryz.prog n 137 cs): ∃ x:HQ,cs=Jx x∧mP x:=by
 obtain⟨m,dss,h0,hE⟩:=Bv (ts:=[3,3,37]) Tryz.underlying137 rfl h
 obtain⟨p,h1,h2⟩:=(Av (dI Tryz.underlying3) (Av (dI Tryz.underlying3) (Av H5 I2))) hE
 exact⟨⟨p.1,p.2.1,p.2.2.1⟩,h0.trans h1,h2⟩
def YJ (x:Bm):Prop:=Ev .i64 x.Kind∧Ev .i64 x.N∧Ev .i64 x.Counter∧IZ x.Filter∧True
theorem fZ {n:Nat} {cs:List C} (h:BK Tryz.prog n 139 cs): ∃ x:Bm,cs=Br x∧YJ x:=by
 obtain⟨m,dss,h0,hE⟩:=Bv (ts:=[3,3,3,37]) Tryz.underlying139 rfl h
 obtain⟨p,h1,h2⟩:=(Av (dI Tryz.underlying3) (Av (dI Tryz.underlying3) (Av (dI Tryz.underlying3) (Av H5 I2)))) hE
 exact⟨⟨p.1,p.2.1,p.2.2.1,p.2.2.2.1⟩,h0.trans h1,h2⟩
def MS (x:Ar):Prop:=Ev .i64 x.Op∧mP x.Ref∧YJ x.Amount∧Ev .i64 x.Counter∧Ev .i64 x.Zone∧sb x.Card∧IZ x.Filter∧rK (Ev .i64) x.Pool∧SA 176 (Xa) x.Mods∧True
theorem f0 {n:Nat} {cs:List C} (h:BK Tryz.prog n 141 cs): ∃ x:Ar,cs=An x∧MS x:=by
 obtain⟨m,dss,h0,hE⟩:=Bv (ts:=[3,137,139,3,3,9,37,71,38]) Tryz.underlying141 rfl h
 obtain⟨p,h1,h2⟩:=(Av (dI Tryz.underlying3) (Av oO (Av fZ (Av (dI Tryz.underlying3) (Av (dI Tryz.underlying3) (Av (dS Tryz.underlying9) (Av H5 (Av (u7 Tryz.underlying71 (dI Tryz.underlying3)) (Av (dL Tryz.underlying38 W9 ak) I2))))))))) hE
 exact⟨⟨p.1,p.2.1,p.2.2.1,p.2.2.2.1,p.2.2.2.2.1,p.2.2.2.2.2.1,p.2.2.2.2.2.2.1,p.2.2.2.2.2.2.2.1,p.2.2.2.2.2.2.2.2.1⟩,h0.trans h1,h2⟩
def Xc (x:AA):Prop:=Ev .i64 x.On∧Ev .i64 x.Who∧IZ x.Filter∧Ev .i64 x.Do∧Ev .i64 x.N∧Ev .i64 x.Zone∧Ev .i64 x.Counter∧True
theorem dn {n:Nat} {cs:List C} (h:BK Tryz.prog n 49 cs): ∃ x:AA,cs=AX x∧Xc x:=by
 obtain⟨m,dss,h0,hE⟩:=Bv (ts:=[3,3,37,3,3,3,3]) Tryz.underlying49 rfl h
 obtain⟨p,h1,h2⟩:=(Av (dI Tryz.underlying3) (Av (dI Tryz.underlying3) (Av H5 (Av (dI Tryz.underlying3) (Av (dI Tryz.underlying3) (Av (dI Tryz.underlying3) (Av (dI Tryz.underlying3) I2))))))) hE
 exact⟨⟨p.1,p.2.1,p.2.2.1,p.2.2.2.1,p.2.2.2.2.1,p.2.2.2.2.2.1,p.2.2.2.2.2.2.1⟩,h0.trans h1,h2⟩
def H6 (x:Ay):Prop:=Ev .i64 x.Kind∧IZ x.Filter∧SA 176 (Xa) x.Mods∧dl x.Price∧Zj x.Slow∧Xb x.Trigger∧Zj x.May∧SA 144 (al) x.Specs∧SA 560 (MS) x.Effects∧Xc x.Replace∧True
theorem QP {n:Nat} {cs:List C} (h:BK Tryz.prog n 51 cs): ∃ x:Ay,cs=Bc x∧H6 x:=by
 obtain⟨m,dss,h0,hE⟩:=Bv (ts:=[3,37,38,43,4,45,4,46,47,49]) Tryz.underlying51 rfl h
 obtain⟨p,h1,h2⟩:=(Av (dI Tryz.underlying3) (Av H5 (Av (dL Tryz.underlying38 W9 ak) (Av kb (Av (dB Tryz.underlying4) (Av dm (Av (dB Tryz.underlying4) (Av (dL Tryz.underlying46 mK mO) (Av (dL Tryz.underlying47 mM f0) (Av dn I2)))))))))) hE
 exact⟨⟨p.1,p.2.1,p.2.2.1,p.2.2.2.1,p.2.2.2.2.1,p.2.2.2.2.2.1,p.2.2.2.2.2.2.1,p.2.2.2.2.2.2.2.1,p.2.2.2.2.2.2.2.2.1,p.2.2.2.2.2.2.2.2.2.1⟩,h0.trans h1,h2⟩
def oP (x:E1):Prop:=sb x.Name∧Zj x.Token∧aj x.Cost∧Ev .i64 x.Color∧ix x.Line∧Ev .i64 x.Power∧Ev .i64 x.Tough∧Ev .i64 x.Keys∧SA 640 (H6) x.Abilities∧True
theorem mQ {n:Nat} {cs:List C} (h:BK Tryz.prog n 270 cs): ∃ x:E1,cs=G9 x∧oP x:=by
 obtain⟨m,dss,h0,hE⟩:=Bv (ts:=[9,4,41,3,267,3,3,3,268]) Tryz.underlying270 rfl h
 obtain⟨p,h1,h2⟩:=(Av (dS Tryz.underlying9) (Av (dB Tryz.underlying4) (Av dk (Av (dI Tryz.underlying3) (Av mN (Av (dI Tryz.underlying3) (Av (dI Tryz.underlying3) (Av (dI Tryz.underlying3) (Av (dL Tryz.underlying268 oI QP) I2))))))))) hE
 exact⟨⟨p.1,p.2.1,p.2.2.1,p.2.2.2.1,p.2.2.2.2.1,p.2.2.2.2.2.1,p.2.2.2.2.2.2.1,p.2.2.2.2.2.2.2.1,p.2.2.2.2.2.2.2.2.1⟩,h0.trans h1,h2⟩
def Rc (x:AB):Prop:=Ev .i64 x.Life∧Ev .i64 x.Venom∧Ev .i64 x.Lands∧rK (Ev .i64) x.Pool∧Zj x.Failed∧Zj x.Lost∧SA 8 (Ev .i64) x.Library∧SA 8 (Ev .i64) x.Hand∧SA 8 (Ev .i64) x.Graveyard∧True
theorem f5 {n:Nat} {cs:List C} (h:BK Tryz.prog n 73 cs): ∃ x:AB,cs=Ah x∧Rc x:=by
 obtain⟨m,dss,h0,hE⟩:=Bv (ts:=[3,3,3,71,4,4,25,25,25]) Tryz.underlying73 rfl h
 obtain⟨p,h1,h2⟩:=(Av (dI Tryz.underlying3) (Av (dI Tryz.underlying3) (Av (dI Tryz.underlying3) (Av (u7 Tryz.underlying71 (dI Tryz.underlying3)) (Av (dB Tryz.underlying4) (Av (dB Tryz.underlying4) (Av (dL Tryz.underlying25 R8 (dI Tryz.underlying3)) (Av (dL Tryz.underlying25 R8 (dI Tryz.underlying3)) (Av (dL Tryz.underlying25 R8 (dI Tryz.underlying3)) I2))))))))) hE
 exact⟨⟨p.1,p.2.1,p.2.2.1,p.2.2.2.1,p.2.2.2.2.1,p.2.2.2.2.2.1,p.2.2.2.2.2.2.1,p.2.2.2.2.2.2.2.1,p.2.2.2.2.2.2.2.2.1⟩,h0.trans h1,h2⟩
def YK (x:Al):Prop:=Ev .i64 x.Id∧Ev .i64 x.Card∧Ev .i64 x.Owner∧Ev .i64 x.Control∧Ev .i64 x.Zone∧Zj x.Token∧Zj x.Tapped∧Zj x.Sick∧Zj x.Deadly∧Ev .i64 x.Damage∧rJ (Ev .i64) x.Counters∧Ev .i64 x.Stamp∧Ev .i64 x.Copy∧Ev .i64 x.Attack∧Zj x.Blocked∧Ev .i64 x.Blocks∧Ev .i64 x.Shield∧True
theorem f6 {n:Nat} {cs:List C} (h:BK Tryz.prog n 63 cs): ∃ x:Al,cs=Ad x∧YK x:=by
 obtain⟨m,dss,h0,hE⟩:=Bv (ts:=[3,3,3,3,3,4,4,4,4,3,53,3,3,3,4,3,3]) Tryz.underlying63 rfl h
 obtain⟨p,h1,h2⟩:=(Av (dI Tryz.underlying3) (Av (dI Tryz.underlying3) (Av (dI Tryz.underlying3) (Av (dI Tryz.underlying3) (Av (dI Tryz.underlying3) (Av (dB Tryz.underlying4) (Av (dB Tryz.underlying4) (Av (dB Tryz.underlying4) (Av (dB Tryz.underlying4) (Av (dI Tryz.underlying3) (Av (u6 Tryz.underlying53 (dI Tryz.underlying3)) (Av (dI Tryz.underlying3) (Av (dI Tryz.underlying3) (Av (dI Tryz.underlying3) (Av (dB Tryz.underlying4) (Av (dI Tryz.underlying3) (Av (dI Tryz.underlying3) I2))))))))))))))))) hE
 exact⟨⟨p.1,p.2.1,p.2.2.1,p.2.2.2.1,p.2.2.2.2.1,p.2.2.2.2.2.1,p.2.2.2.2.2.2.1,p.2.2.2.2.2.2.2.1,p.2.2.2.2.2.2.2.2.1,p.2.2.2.2.2.2.2.2.2.1,p.2.2.2.2.2.2.2.2.2.2.1,p.2.2.2.2.2.2.2.2.2.2.2.1,p.2.2.2.2.2.2.2.2.2.2.2.2.1,p.2.2.2.2.2.2.2.2.2.2.2.2.2.1,p.2.2.2.2.2.2.2.2.2.2.2.2.2.2.1,p.2.2.2.2.2.2.2.2.2.2.2.2.2.2.2.1,p.2.2.2.2.2.2.2.2.2.2.2.2.2.2.2.2.1⟩,h0.trans h1,h2⟩
def YL (x:DJ):Prop:=Ev .i64 x.Object∧Ev .i64 x.Player∧True
theorem f7 {n:Nat} {cs:List C} (h:BK Tryz.prog n 112 cs): ∃ x:DJ,cs=Bl x∧YL x:=by
 obtain⟨m,dss,h0,hE⟩:=Bv (ts:=[3,3]) Tryz.underlying112 rfl h
 obtain⟨p,h1,h2⟩:=(Av (dI Tryz.underlying3) (Av (dI Tryz.underlying3) I2)) hE
 exact⟨⟨p.1,p.2.1⟩,h0.trans h1,h2⟩
def Xd (x:Qc):Prop:=Ev .i64 x.Kind∧Ev .i64 x.Source∧Ev .i64 x.Object∧Ev .i64 x.Player∧Ev .i64 x.Amount∧Ev .i64 x.From∧Ev .i64 x.To∧Ev .i64 x.Cause∧Ev .i64 x.Counter∧Ev .i64 x.Card∧Zj x.Combat∧Zj x.Tapped∧rJ (Ev .i64) x.Extra∧True
theorem YM {n:Nat} {cs:List C} (h:BK Tryz.prog n 55 cs): ∃ x:Qc,cs=QZ x∧Xd x:=by
 obtain⟨m,dss,h0,hE⟩:=Bv (ts:=[3,3,3,3,3,3,3,3,3,3,4,4,53]) Tryz.underlying55 rfl h
 obtain⟨p,h1,h2⟩:=(Av (dI Tryz.underlying3) (Av (dI Tryz.underlying3) (Av (dI Tryz.underlying3) (Av (dI Tryz.underlying3) (Av (dI Tryz.underlying3) (Av (dI Tryz.underlying3) (Av (dI Tryz.underlying3) (Av (dI Tryz.underlying3) (Av (dI Tryz.underlying3) (Av (dI Tryz.underlying3) (Av (dB Tryz.underlying4) (Av (dB Tryz.underlying4) (Av (u6 Tryz.underlying53 (dI Tryz.underlying3)) I2))))))))))))) hE
 exact⟨⟨p.1,p.2.1,p.2.2.1,p.2.2.2.1,p.2.2.2.2.1,p.2.2.2.2.2.1,p.2.2.2.2.2.2.1,p.2.2.2.2.2.2.2.1,p.2.2.2.2.2.2.2.2.1,p.2.2.2.2.2.2.2.2.2.1,p.2.2.2.2.2.2.2.2.2.2.1,p.2.2.2.2.2.2.2.2.2.2.2.1,p.2.2.2.2.2.2.2.2.2.2.2.2.1⟩,h0.trans h1,h2⟩
def Vq (x:Cb):Prop:=Ev .i64 x.Id∧Ev .i64 x.Kind∧Ev .i64 x.Source∧Ev .i64 x.Control∧Ev .i64 x.X∧Zj x.Copy∧H6 x.Ability∧SA 16 (YL) x.Targets∧Xd x.Event∧True
theorem mR {n:Nat} {cs:List C} (h:BK Tryz.prog n 57 cs): ∃ x:Cb,cs=Au x∧Vq x:=by
 obtain⟨m,dss,h0,hE⟩:=Bv (ts:=[3,3,3,3,3,4,51,52,55]) Tryz.underlying57 rfl h
 obtain⟨p,h1,h2⟩:=(Av (dI Tryz.underlying3) (Av (dI Tryz.underlying3) (Av (dI Tryz.underlying3) (Av (dI Tryz.underlying3) (Av (dI Tryz.underlying3) (Av (dB Tryz.underlying4) (Av QP (Av (dL Tryz.underlying52 mL f7) (Av YM I2))))))))) hE
 exact⟨⟨p.1,p.2.1,p.2.2.1,p.2.2.2.1,p.2.2.2.2.1,p.2.2.2.2.2.1,p.2.2.2.2.2.2.1,p.2.2.2.2.2.2.2.1,p.2.2.2.2.2.2.2.2.1⟩,h0.trans h1,h2⟩
def PF (x:BI):Prop:=Ev .i64 x.Source∧Ev .i64 x.Control∧H6 x.Ability∧Xd x.Event∧True
theorem dp {n:Nat} {cs:List C} (h:BK Tryz.prog n 59 cs): ∃ x:BI,cs=Aq x∧PF x:=by
 obtain⟨m,dss,h0,hE⟩:=Bv (ts:=[3,3,51,55]) Tryz.underlying59 rfl h
 obtain⟨p,h1,h2⟩:=(Av (dI Tryz.underlying3) (Av (dI Tryz.underlying3) (Av QP (Av YM I2)))) hE
 exact⟨⟨p.1,p.2.1,p.2.2.1,p.2.2.2.1⟩,h0.trans h1,h2⟩
def Vr (x:E9):Prop:=Ev .i64 x.Stamp∧Ev .i64 x.Control∧Ev .i64 x.Source∧Ev .i64 x.Until∧SA 8 (Ev .i64) x.Objects∧SA 176 (Xa) x.Mods∧True
theorem mS {n:Nat} {cs:List C} (h:BK Tryz.prog n 61 cs): ∃ x:E9,cs=AF x∧Vr x:=by
 obtain⟨m,dss,h0,hE⟩:=Bv (ts:=[3,3,3,3,25,38]) Tryz.underlying61 rfl h
 obtain⟨p,h1,h2⟩:=(Av (dI Tryz.underlying3) (Av (dI Tryz.underlying3) (Av (dI Tryz.underlying3) (Av (dI Tryz.underlying3) (Av (dL Tryz.underlying25 R8 (dI Tryz.underlying3)) (Av (dL Tryz.underlying38 W9 ak) I2)))))) hE
 exact⟨⟨p.1,p.2.1,p.2.2.1,p.2.2.2.1,p.2.2.2.2.1,p.2.2.2.2.2.1⟩,h0.trans h1,h2⟩
def NB (x:Ai):Prop:=SA 152 (Rc) x.Players∧SA 128 (YK) x.Objects∧SA 8 (Ev .i64) x.Battlefield∧SA 8 (Ev .i64) x.Exile∧SA 824 (Vq) x.Stack∧SA 768 (PF) x.Waiting∧SA 80 (Vr) x.Conts∧Ev .i64 x.Turn∧Ev .i64 x.Active∧Ev .i64 x.Step∧Zj x.Begun∧Ev .i64 x.Priority∧Ev .i64 x.Passes∧Ev .i64 x.NextId∧Ev .i64 x.NextStamp∧Ev .u64 x.Seed∧SA 8 (Ev .i64) x.Extra∧Ev .i64 x.Over∧Ev .i64 x.Winner∧True
theorem ke {n:Nat} {cs:List C} (h:BK Tryz.prog n 31 cs): ∃ x:Ai,cs=Aj x∧NB x:=by
 obtain⟨m,dss,h0,hE⟩:=Bv (ts:=[23,24,25,25,26,27,28,3,3,3,4,3,3,3,3,29,25,3,3]) Tryz.underlying31 rfl h
 obtain⟨p,h1,h2⟩:=(Av (dL Tryz.underlying23 oN f5) (Av (dL Tryz.underlying24 oM f6) (Av (dL Tryz.underlying25 R8 (dI Tryz.underlying3)) (Av (dL Tryz.underlying25 R8 (dI Tryz.underlying3)) (Av (dL Tryz.underlying26 oJ mR) (Av (dL Tryz.underlying27 oK dp) (Av (dL Tryz.underlying28 oL mS) (Av (dI Tryz.underlying3) (Av (dI Tryz.underlying3) (Av (dI Tryz.underlying3) (Av (dB Tryz.underlying4) (Av (dI Tryz.underlying3) (Av (dI Tryz.underlying3) (Av (dI Tryz.underlying3) (Av (dI Tryz.underlying3) (Av (dI Tryz.underlying29) (Av (dL Tryz.underlying25 R8 (dI Tryz.underlying3)) (Av (dI Tryz.underlying3) (Av (dI Tryz.underlying3) I2))))))))))))))))))) hE
 exact⟨⟨p.1,p.2.1,p.2.2.1,p.2.2.2.1,p.2.2.2.2.1,p.2.2.2.2.2.1,p.2.2.2.2.2.2.1,p.2.2.2.2.2.2.2.1,p.2.2.2.2.2.2.2.2.1,p.2.2.2.2.2.2.2.2.2.1,p.2.2.2.2.2.2.2.2.2.2.1,p.2.2.2.2.2.2.2.2.2.2.2.1,p.2.2.2.2.2.2.2.2.2.2.2.2.1,p.2.2.2.2.2.2.2.2.2.2.2.2.2.1,p.2.2.2.2.2.2.2.2.2.2.2.2.2.2.1,p.2.2.2.2.2.2.2.2.2.2.2.2.2.2.2.1,p.2.2.2.2.2.2.2.2.2.2.2.2.2.2.2.2.1,p.2.2.2.2.2.2.2.2.2.2.2.2.2.2.2.2.2.1,p.2.2.2.2.2.2.2.2.2.2.2.2.2.2.2.2.2.2.1⟩,h0.trans h1,h2⟩
end Go.PL
