/- Functions of the program, as partial functions in Lean, with proofs. -/
import Derived.Test.YteginlijmbcopaaGreatDoorTv2toPlPx
import Derived.Test.YteginlijmbcopaaGreatDoorPlBlB
namespace Go.PL
open Go Go.RowKit Go.Proofs
set_option maxRecDepth 100000
set_option linter.all false
set_option maxHeartbeats 4000000
theorem OM:Tryz.prog.bytesOf 3=8:=by kernel_rfl
theorem Aga:Tryz.prog.bytesOf 9=16:=by kernel_rfl
theorem AcD:Tryz.prog.bytesOf 31=24:=by kernel_rfl
theorem AcE:Tryz.prog.bytesOf 61=152:=by kernel_rfl
theorem AcF:Tryz.prog.bytesOf 70=128:=by kernel_rfl
theorem zI:Tryz.prog.bytesOf 102=176:=by kernel_rfl
theorem zJ:Tryz.prog.bytesOf 121=640:=by kernel_rfl
theorem zK:Tryz.prog.bytesOf 126=824:=by kernel_rfl
theorem zL:Tryz.prog.bytesOf 129=768:=by kernel_rfl
theorem zM:Tryz.prog.bytesOf 132=80:=by kernel_rfl
theorem zN:Tryz.prog.bytesOf 143=16:=by kernel_rfl
theorem a7:Tryz.prog.bytesOf 148=176:=by kernel_rfl
theorem zO:Tryz.prog.bytesOf 180=560:=by kernel_rfl
theorem zP:Tryz.prog.bytesOf 184=144:=by kernel_rfl
def Agb {α:Type} (ok:α->Prop) (a:A3 α):Prop:= ∀ y∈a.l,ok y
theorem dA3 {P:Program} {t e:TypeId} {n:Nat} {cs:List C} {α:Type} {enc:α->List C} {ok:α->Prop} (hu:P.underlying t=some (.array 3 e)) (hd: ∀ {n ds},A7 P n e ds-> ∃ x,ds=enc x/\ok x) (h:A7 P n t cs): ∃ a:A3 α,cs=eA3 enc a/\Agb ok a:=by
 obtain⟨l,h1,h2,h3⟩:=dA hu hd h;subst h2
 match l,h1,h3 with
 | [x0,x1,x2],_,h3=>exact⟨⟨x0,x1,x2⟩,rfl,h3⟩
def Ah2 {α:Type} (ok:α->Prop) (a:A5 α):Prop:= ∀ y∈a.l,ok y
theorem dA5 {P:Program} {t e:TypeId} {n:Nat} {cs:List C} {α:Type} {enc:α->List C} {ok:α->Prop} (hu:P.underlying t=some (.array 5 e)) (hd: ∀ {n ds},A7 P n e ds-> ∃ x,ds=enc x/\ok x) (h:A7 P n t cs): ∃ a:A5 α,cs=eA5 enc a/\Ah2 ok a:=by
 obtain⟨l,h1,h2,h3⟩:=dA hu hd h;subst h2
 match l,h1,h3 with
 | [x0,x1,x2,x3,x4],_,h3=>exact⟨⟨x0,x1,x2,x3,x4⟩,rfl,h3⟩
def Agc {α:Type} (ok:α->Prop) (a:A6 α):Prop:= ∀ y∈a.l,ok y
theorem dA6 {P:Program} {t e:TypeId} {n:Nat} {cs:List C} {α:Type} {enc:α->List C} {ok:α->Prop} (hu:P.underlying t=some (.array 6 e)) (hd: ∀ {n ds},A7 P n e ds-> ∃ x,ds=enc x/\ok x) (h:A7 P n t cs): ∃ a:A6 α,cs=eA6 enc a/\Agc ok a:=by
 obtain⟨l,h1,h2,h3⟩:=dA hu hd h;subst h2
 match l,h1,h3 with
 | [x0,x1,x2,x3,x4,x5],_,h3=>exact⟨⟨x0,x1,x2,x3,x4,x5⟩,rfl,h3⟩
def j6 (x:AS):Prop:=CA .i64 x.Generic/\CA .i64 x.X/\Ah2 (CA .i64) x.Color/\True
theorem oc {n:Nat} {cs:List C} (h:A7 Tryz.prog n 99 cs): ∃ x:AS,cs=JM x/\j6 x:=by obtain⟨m,CO,h0,hE⟩:=AM (ts:=[3,3,97]) Tryz.underlying99 rfl h;obtain⟨p,h1,h2⟩:=(Ar (dI Tryz.underlying3) (Ar (dI Tryz.underlying3) (Ar (dA5 Tryz.underlying97 (dI Tryz.underlying3)) E6))) hE;exact⟨⟨p.1,p.2.1,p.2.2.1⟩,h0.trans h1,h2⟩
def tK (x:JN):Prop:=CA .i64 x.agi/\CA .i64 x.Types/\V9 16 (okS) x.afB/\True
theorem zQ {n:Nat} {cs:List C} (h:A7 Tryz.prog n 96 cs): ∃ x:JN,cs=Zh x/\tK x:=by obtain⟨m,CO,h0,hE⟩:=AM (ts:=[3,3,94]) Tryz.underlying96 rfl h;obtain⟨p,h1,h2⟩:=(Ar (dI Tryz.underlying3) (Ar (dI Tryz.underlying3) (Ar (dL Tryz.underlying94 Aga (dS Tryz.underlying9)) E6))) hE;exact⟨⟨p.1,p.2.1,p.2.2.1⟩,h0.trans h1,h2⟩
def SY (x:As):Prop:=CA .i64 x.Kind/\CA .i64 x.N/\True
theorem UP {n:Nat} {cs:List C} (h:A7 Tryz.prog n 108 cs): ∃ x:As,cs=fl x/\SY x:=by obtain⟨m,CO,h0,hE⟩:=AM (ts:=[3,3]) Tryz.underlying108 rfl h;obtain⟨p,h1,h2⟩:=(Ar (dI Tryz.underlying3) (Ar (dI Tryz.underlying3) E6)) hE;exact⟨⟨p.1,p.2.1⟩,h0.trans h1,h2⟩
def EY (x:Av):Prop:=CA .i64 x.O_/\CA .i64 x.Who/\CA .i64 x.Self/\CA .i64 x.Types/\CA .i64 x.ad_/\CA .i64 x.ah6/\CA .i64 x.adq/\okS x.Sub/\CA .i64 x.Keys/\CA .i64 x.Tap/\SY x.Power/\SY x.acD/\SY x.Value/\True
theorem EM {n:Nat} {cs:List C} (h:A7 Tryz.prog n 110 cs): ∃ x:Av,cs=Ce x/\EY x:=by obtain⟨m,CO,h0,hE⟩:=AM (ts:=[3,3,3,3,3,3,3,9,3,3,108,108,108]) Tryz.underlying110 rfl h;obtain⟨p,h1,h2⟩:=(Ar (dI Tryz.underlying3) (Ar (dI Tryz.underlying3) (Ar (dI Tryz.underlying3) (Ar (dI Tryz.underlying3) (Ar (dI Tryz.underlying3) (Ar (dI Tryz.underlying3) (Ar (dI Tryz.underlying3) (Ar (dS Tryz.underlying9) (Ar (dI Tryz.underlying3) (Ar (dI Tryz.underlying3) (Ar UP (Ar UP (Ar UP E6))))))))))))) hE;exact⟨⟨p.1,p.2.1,p.2.2.1,p.2.2.2.1,p.2.2.2.2.1,p.2.2.2.2.2.1,p.2.2.2.2.2.2.1,p.2.2.2.2.2.2.2.1,p.2.2.2.2.2.2.2.2.1,p.2.2.2.2.2.2.2.2.2.1,p.2.2.2.2.2.2.2.2.2.2.1,p.2.2.2.2.2.2.2.2.2.2.2.1,p.2.2.2.2.2.2.2.2.2.2.2.2.1⟩,h0.trans h1,h2⟩
def j7 (x:BB):Prop:=CA .i64 x.Kind/\CA .i64 x.N/\CA .i64 x.M/\okS x.Sub/\EY x.Filter/\True
theorem j8 {n:Nat} {cs:List C} (h:A7 Tryz.prog n 148 cs): ∃ x:BB,cs=Ft x/\j7 x:=by obtain⟨m,CO,h0,hE⟩:=AM (ts:=[3,3,3,9,110]) Tryz.underlying148 rfl h;obtain⟨p,h1,h2⟩:=(Ar (dI Tryz.underlying3) (Ar (dI Tryz.underlying3) (Ar (dI Tryz.underlying3) (Ar (dS Tryz.underlying9) (Ar EM E6))))) hE;exact⟨⟨p.1,p.2.1,p.2.2.1,p.2.2.2.1,p.2.2.2.2.1⟩,h0.trans h1,h2⟩
def od (x:CC):Prop:=j6 x.aqG/\iM x.Tap/\iM x.alN/\CA .i64 x.afD/\True
theorem wh {n:Nat} {cs:List C} (h:A7 Tryz.prog n 113 cs): ∃ x:CC,cs=I8 x/\od x:=by obtain⟨m,CO,h0,hE⟩:=AM (ts:=[99,4,4,3]) Tryz.underlying113 rfl h;obtain⟨p,h1,h2⟩:=(Ar oc (Ar (dB Tryz.underlying4) (Ar (dB Tryz.underlying4) (Ar (dI Tryz.underlying3) E6)))) hE;exact⟨⟨p.1,p.2.1,p.2.2.1,p.2.2.2.1⟩,h0.trans h1,h2⟩
def a8 (x:Bz):Prop:=CA .i64 x.aoQ/\CA .i64 x.Who/\EY x.Filter/\True
theorem oe {n:Nat} {cs:List C} (h:A7 Tryz.prog n 115 cs): ∃ x:Bz,cs=F4 x/\a8 x:=by obtain⟨m,CO,h0,hE⟩:=AM (ts:=[3,3,110]) Tryz.underlying115 rfl h;obtain⟨p,h1,h2⟩:=(Ar (dI Tryz.underlying3) (Ar (dI Tryz.underlying3) (Ar EM E6))) hE;exact⟨⟨p.1,p.2.1,p.2.2.1⟩,h0.trans h1,h2⟩
def tL (x:C8):Prop:=iM x.abO/\iM x.Object/\EY x.Filter/\True
theorem zR {n:Nat} {cs:List C} (h:A7 Tryz.prog n 184 cs): ∃ x:C8,cs=Fm x/\tL x:=by obtain⟨m,CO,h0,hE⟩:=AM (ts:=[4,4,110]) Tryz.underlying184 rfl h;obtain⟨p,h1,h2⟩:=(Ar (dB Tryz.underlying4) (Ar (dB Tryz.underlying4) (Ar EM E6))) hE;exact⟨⟨p.1,p.2.1,p.2.2.1⟩,h0.trans h1,h2⟩
def zS (x:Px):Prop:=CA .i64 x.Kind/\CA .i64 x.N/\EY x.Filter/\True
theorem AcG {n:Nat} {cs:List C} (h:A7 Tryz.prog n 176 cs): ∃ x:Px,cs=O9 x/\zS x:=by obtain⟨m,CO,h0,hE⟩:=AM (ts:=[3,3,110]) Tryz.underlying176 rfl h;obtain⟨p,h1,h2⟩:=(Ar (dI Tryz.underlying3) (Ar (dI Tryz.underlying3) (Ar EM E6))) hE;exact⟨⟨p.1,p.2.1,p.2.2.1⟩,h0.trans h1,h2⟩
def fY (x:CR):Prop:=CA .i64 x.Kind/\CA .i64 x.N/\CA .i64 x.R_/\EY x.Filter/\True
theorem rI {n:Nat} {cs:List C} (h:A7 Tryz.prog n 178 cs): ∃ x:CR,cs=Hk x/\fY x:=by obtain⟨m,CO,h0,hE⟩:=AM (ts:=[3,3,3,110]) Tryz.underlying178 rfl h;obtain⟨p,h1,h2⟩:=(Ar (dI Tryz.underlying3) (Ar (dI Tryz.underlying3) (Ar (dI Tryz.underlying3) (Ar EM E6)))) hE;exact⟨⟨p.1,p.2.1,p.2.2.1,p.2.2.2.1⟩,h0.trans h1,h2⟩
def fZ (x:AF):Prop:=CA .i64 x.Op/\zS x.Ref/\fY x.adD/\CA .i64 x.R_/\CA .i64 x.O_/\okS x.aag/\EY x.Filter/\Agc (CA .i64) x.ab7/\V9 176 (j7) x.aai/\True
theorem rJ {n:Nat} {cs:List C} (h:A7 Tryz.prog n 180 cs): ∃ x:AF,cs=FH x/\fZ x:=by obtain⟨m,CO,h0,hE⟩:=AM (ts:=[3,176,178,3,3,9,110,59,111]) Tryz.underlying180 rfl h;obtain⟨p,h1,h2⟩:=(Ar (dI Tryz.underlying3) (Ar AcG (Ar rI (Ar (dI Tryz.underlying3) (Ar (dI Tryz.underlying3) (Ar (dS Tryz.underlying9) (Ar EM (Ar (dA6 Tryz.underlying59 (dI Tryz.underlying3)) (Ar (dL Tryz.underlying111 a7 j8) E6))))))))) hE;exact⟨⟨p.1,p.2.1,p.2.2.1,p.2.2.2.1,p.2.2.2.2.1,p.2.2.2.2.2.1,p.2.2.2.2.2.2.1,p.2.2.2.2.2.2.2.1,p.2.2.2.2.2.2.2.2.1⟩,h0.trans h1,h2⟩
def ba (x:Bn):Prop:=CA .i64 x.On/\CA .i64 x.Who/\EY x.Filter/\CA .i64 x.Do/\CA .i64 x.N/\CA .i64 x.O_/\CA .i64 x.R_/\True
theorem og {n:Nat} {cs:List C} (h:A7 Tryz.prog n 119 cs): ∃ x:Bn,cs=F5 x/\ba x:=by obtain⟨m,CO,h0,hE⟩:=AM (ts:=[3,3,110,3,3,3,3]) Tryz.underlying119 rfl h;obtain⟨p,h1,h2⟩:=(Ar (dI Tryz.underlying3) (Ar (dI Tryz.underlying3) (Ar EM (Ar (dI Tryz.underlying3) (Ar (dI Tryz.underlying3) (Ar (dI Tryz.underlying3) (Ar (dI Tryz.underlying3) E6))))))) hE;exact⟨⟨p.1,p.2.1,p.2.2.1,p.2.2.2.1,p.2.2.2.2.1,p.2.2.2.2.2.1,p.2.2.2.2.2.2.1⟩,h0.trans h1,h2⟩
def J8 (x:AG):Prop:=CA .i64 x.Kind/\EY x.Filter/\V9 176 (j7) x.aai/\od x.afC/\iM x.alb/\a8 x.acv/\iM x.May/\V9 144 (tL) x.acg/\V9 560 (fZ) x.w_/\ba x.Replace/\True
theorem ON {n:Nat} {cs:List C} (h:A7 Tryz.prog n 121 cs): ∃ x:AG,cs=HZ x/\J8 x:=by obtain⟨m,CO,h0,hE⟩:=AM (ts:=[3,110,111,113,4,115,4,116,117,119]) Tryz.underlying121 rfl h;obtain⟨p,h1,h2⟩:=(Ar (dI Tryz.underlying3) (Ar EM (Ar (dL Tryz.underlying111 a7 j8) (Ar wh (Ar (dB Tryz.underlying4) (Ar oe (Ar (dB Tryz.underlying4) (Ar (dL Tryz.underlying116 zP zR) (Ar (dL Tryz.underlying117 zO rJ) (Ar og E6)))))))))) hE;exact⟨⟨p.1,p.2.1,p.2.2.1,p.2.2.2.1,p.2.2.2.2.1,p.2.2.2.2.2.1,p.2.2.2.2.2.2.1,p.2.2.2.2.2.2.2.1,p.2.2.2.2.2.2.2.2.1,p.2.2.2.2.2.2.2.2.2.1⟩,h0.trans h1,h2⟩
def tM (x:AN):Prop:=okS x.Name/\iM x.Token/\j6 x.anB/\CA .i64 x.Color/\tK x.aea/\CA .i64 x.Power/\CA .i64 x.acD/\CA .i64 x.Keys/\V9 640 (J8) x.A_/\True
theorem zT {n:Nat} {cs:List C} (h:A7 Tryz.prog n 102 cs): ∃ x:AN,cs=N8 x/\tM x:=by obtain⟨m,CO,h0,hE⟩:=AM (ts:=[9,4,99,3,96,3,3,3,100]) Tryz.underlying102 rfl h;obtain⟨p,h1,h2⟩:=(Ar (dS Tryz.underlying9) (Ar (dB Tryz.underlying4) (Ar oc (Ar (dI Tryz.underlying3) (Ar zQ (Ar (dI Tryz.underlying3) (Ar (dI Tryz.underlying3) (Ar (dI Tryz.underlying3) (Ar (dL Tryz.underlying100 zJ ON) E6))))))))) hE;exact⟨⟨p.1,p.2.1,p.2.2.1,p.2.2.2.1,p.2.2.2.2.1,p.2.2.2.2.2.1,p.2.2.2.2.2.2.1,p.2.2.2.2.2.2.2.1,p.2.2.2.2.2.2.2.2.1⟩,h0.trans h1,h2⟩
def f0 (x:Ap):Prop:=CA .i64 x.afD/\CA .i64 x.ahw/\CA .i64 x.ahz/\Agc (CA .i64) x.ab7/\iM x.afE/\iM x.ahy/\V9 8 (CA .i64) x.g_/\V9 8 (CA .i64) x.Hand/\V9 8 (CA .i64) x.AT/\True
theorem rK {n:Nat} {cs:List C} (h:A7 Tryz.prog n 61 cs): ∃ x:Ap,cs=FI x/\f0 x:=by obtain⟨m,CO,h0,hE⟩:=AM (ts:=[3,3,3,59,4,4,31,31,31]) Tryz.underlying61 rfl h;obtain⟨p,h1,h2⟩:=(Ar (dI Tryz.underlying3) (Ar (dI Tryz.underlying3) (Ar (dI Tryz.underlying3) (Ar (dA6 Tryz.underlying59 (dI Tryz.underlying3)) (Ar (dB Tryz.underlying4) (Ar (dB Tryz.underlying4) (Ar (dL Tryz.underlying31 OM (dI Tryz.underlying3)) (Ar (dL Tryz.underlying31 OM (dI Tryz.underlying3)) (Ar (dL Tryz.underlying31 OM (dI Tryz.underlying3)) E6))))))))) hE;exact⟨⟨p.1,p.2.1,p.2.2.1,p.2.2.2.1,p.2.2.2.2.1,p.2.2.2.2.2.1,p.2.2.2.2.2.2.1,p.2.2.2.2.2.2.2.1,p.2.2.2.2.2.2.2.2.1⟩,h0.trans h1,h2⟩
def f6 (x:Ae):Prop:=CA .i64 x.Id/\CA .i64 x.aag/\CA .i64 x.p_/\CA .i64 x.Control/\CA .i64 x.O_/\iM x.Token/\iM x.ah4/\iM x.asm/\iM x.aoR/\CA .i64 x.aky/\Agb (CA .i64) x.Counters/\CA .i64 x.adf/\CA .i64 x.alc/\CA .i64 x.akA/\iM x.amD/\CA .i64 x.akz/\CA .i64 x.akx/\True
theorem rL {n:Nat} {cs:List C} (h:A7 Tryz.prog n 70 cs): ∃ x:Ae,cs=Df x/\f6 x:=by obtain⟨m,CO,h0,hE⟩:=AM (ts:=[3,3,3,3,3,4,4,4,4,3,68,3,3,3,4,3,3]) Tryz.underlying70 rfl h;obtain⟨p,h1,h2⟩:=(Ar (dI Tryz.underlying3) (Ar (dI Tryz.underlying3) (Ar (dI Tryz.underlying3) (Ar (dI Tryz.underlying3) (Ar (dI Tryz.underlying3) (Ar (dB Tryz.underlying4) (Ar (dB Tryz.underlying4) (Ar (dB Tryz.underlying4) (Ar (dB Tryz.underlying4) (Ar (dI Tryz.underlying3) (Ar (dA3 Tryz.underlying68 (dI Tryz.underlying3)) (Ar (dI Tryz.underlying3) (Ar (dI Tryz.underlying3) (Ar (dI Tryz.underlying3) (Ar (dB Tryz.underlying4) (Ar (dI Tryz.underlying3) (Ar (dI Tryz.underlying3) E6))))))))))))))))) hE;exact⟨⟨p.1,p.2.1,p.2.2.1,p.2.2.2.1,p.2.2.2.2.1,p.2.2.2.2.2.1,p.2.2.2.2.2.2.1,p.2.2.2.2.2.2.2.1,p.2.2.2.2.2.2.2.2.1,p.2.2.2.2.2.2.2.2.2.1,p.2.2.2.2.2.2.2.2.2.2.1,p.2.2.2.2.2.2.2.2.2.2.2.1,p.2.2.2.2.2.2.2.2.2.2.2.2.1,p.2.2.2.2.2.2.2.2.2.2.2.2.2.1,p.2.2.2.2.2.2.2.2.2.2.2.2.2.2.1,p.2.2.2.2.2.2.2.2.2.2.2.2.2.2.2.1,p.2.2.2.2.2.2.2.2.2.2.2.2.2.2.2.2.1⟩,h0.trans h1,h2⟩
def f9 (x:C9):Prop:=CA .i64 x.Object/\CA .i64 x.abO/\True
theorem rM {n:Nat} {cs:List C} (h:A7 Tryz.prog n 143 cs): ∃ x:C9,cs=Dg x/\f9 x:=by obtain⟨m,CO,h0,hE⟩:=AM (ts:=[3,3]) Tryz.underlying143 rfl h;obtain⟨p,h1,h2⟩:=(Ar (dI Tryz.underlying3) (Ar (dI Tryz.underlying3) E6)) hE;exact⟨⟨p.1,p.2.1⟩,h0.trans h1,h2⟩
def bb (x:Hm):Prop:=CA .i64 x.Kind/\CA .i64 x.Source/\CA .i64 x.Object/\CA .i64 x.abO/\CA .i64 x.adD/\CA .i64 x.az5/\CA .i64 x.To/\CA .i64 x.auJ/\CA .i64 x.R_/\CA .i64 x.aag/\iM x.asn/\iM x.ah4/\Agb (CA .i64) x.Extra/\True
theorem gc {n:Nat} {cs:List C} (h:A7 Tryz.prog n 124 cs): ∃ x:Hm,cs=Ho x/\bb x:=by obtain⟨m,CO,h0,hE⟩:=AM (ts:=[3,3,3,3,3,3,3,3,3,3,4,4,68]) Tryz.underlying124 rfl h;obtain⟨p,h1,h2⟩:=(Ar (dI Tryz.underlying3) (Ar (dI Tryz.underlying3) (Ar (dI Tryz.underlying3) (Ar (dI Tryz.underlying3) (Ar (dI Tryz.underlying3) (Ar (dI Tryz.underlying3) (Ar (dI Tryz.underlying3) (Ar (dI Tryz.underlying3) (Ar (dI Tryz.underlying3) (Ar (dI Tryz.underlying3) (Ar (dB Tryz.underlying4) (Ar (dB Tryz.underlying4) (Ar (dA3 Tryz.underlying68 (dI Tryz.underlying3)) E6))))))))))))) hE;exact⟨⟨p.1,p.2.1,p.2.2.1,p.2.2.2.1,p.2.2.2.2.1,p.2.2.2.2.2.1,p.2.2.2.2.2.2.1,p.2.2.2.2.2.2.2.1,p.2.2.2.2.2.2.2.2.1,p.2.2.2.2.2.2.2.2.2.1,p.2.2.2.2.2.2.2.2.2.2.1,p.2.2.2.2.2.2.2.2.2.2.2.1,p.2.2.2.2.2.2.2.2.2.2.2.2.1⟩,h0.trans h1,h2⟩
def tN (x:AE):Prop:=CA .i64 x.Id/\CA .i64 x.Kind/\CA .i64 x.Source/\CA .i64 x.Control/\CA .i64 x.X/\iM x.alc/\J8 x.C_/\V9 16 (f9) x.aaF/\bb x.Event/\True
theorem zU {n:Nat} {cs:List C} (h:A7 Tryz.prog n 126 cs): ∃ x:AE,cs=JO x/\tN x:=by obtain⟨m,CO,h0,hE⟩:=AM (ts:=[3,3,3,3,3,4,121,122,124]) Tryz.underlying126 rfl h;obtain⟨p,h1,h2⟩:=(Ar (dI Tryz.underlying3) (Ar (dI Tryz.underlying3) (Ar (dI Tryz.underlying3) (Ar (dI Tryz.underlying3) (Ar (dI Tryz.underlying3) (Ar (dB Tryz.underlying4) (Ar ON (Ar (dL Tryz.underlying122 zN rM) (Ar gc E6))))))))) hE;exact⟨⟨p.1,p.2.1,p.2.2.1,p.2.2.2.1,p.2.2.2.2.1,p.2.2.2.2.2.1,p.2.2.2.2.2.2.1,p.2.2.2.2.2.2.2.1,p.2.2.2.2.2.2.2.2.1⟩,h0.trans h1,h2⟩
def bc (x:AA):Prop:=CA .i64 x.Source/\CA .i64 x.Control/\J8 x.C_/\bb x.Event/\True
theorem oh {n:Nat} {cs:List C} (h:A7 Tryz.prog n 129 cs): ∃ x:AA,cs=Et x/\bc x:=by obtain⟨m,CO,h0,hE⟩:=AM (ts:=[3,3,121,124]) Tryz.underlying129 rfl h;obtain⟨p,h1,h2⟩:=(Ar (dI Tryz.underlying3) (Ar (dI Tryz.underlying3) (Ar ON (Ar gc E6)))) hE;exact⟨⟨p.1,p.2.1,p.2.2.1,p.2.2.2.1⟩,h0.trans h1,h2⟩
def tO (x:AY):Prop:=CA .i64 x.adf/\CA .i64 x.Control/\CA .i64 x.Source/\CA .i64 x.akw/\V9 8 (CA .i64) x.b_/\V9 176 (j7) x.aai/\True
theorem zV {n:Nat} {cs:List C} (h:A7 Tryz.prog n 132 cs): ∃ x:AY,cs=JP x/\tO x:=by obtain⟨m,CO,h0,hE⟩:=AM (ts:=[3,3,3,3,31,111]) Tryz.underlying132 rfl h;obtain⟨p,h1,h2⟩:=(Ar (dI Tryz.underlying3) (Ar (dI Tryz.underlying3) (Ar (dI Tryz.underlying3) (Ar (dI Tryz.underlying3) (Ar (dL Tryz.underlying31 OM (dI Tryz.underlying3)) (Ar (dL Tryz.underlying111 a7 j8) E6)))))) hE;exact⟨⟨p.1,p.2.1,p.2.2.1,p.2.2.2.1,p.2.2.2.2.1,p.2.2.2.2.2.1⟩,h0.trans h1,h2⟩
def om (x:Aa):Prop:=V9 152 (f0) x.a_/\V9 128 (f6) x.b_/\V9 8 (CA .i64) x.l_/\V9 8 (CA .i64) x.T_/\V9 824 (tN) x.Stack/\V9 768 (bc) x.o_/\V9 80 (tO) x.v_/\CA .i64 x.I_/\CA .i64 x.k_/\CA .i64 x.Step/\iM x.H_/\CA .i64 x.Priority/\CA .i64 x.Passes/\CA .i64 x.f_/\CA .i64 x.c_/\CA .u64 x.Tw/\V9 8 (CA .i64) x.Extra/\CA .i64 x.aae/\CA .i64 x.z_/\True
theorem wi {n:Nat} {cs:List C} (h:A7 Tryz.prog n 36 cs): ∃ x:Aa,cs=Pa x/\om x:=by obtain⟨m,CO,h0,hE⟩:=AM (ts:=[29,30,31,31,32,33,34,3,3,3,4,3,3,3,3,24,31,3,3]) Tryz.underlying36 rfl h;obtain⟨p,h1,h2⟩:=(Ar (dL Tryz.underlying29 AcE rK) (Ar (dL Tryz.underlying30 AcF rL) (Ar (dL Tryz.underlying31 OM (dI Tryz.underlying3)) (Ar (dL Tryz.underlying31 OM (dI Tryz.underlying3)) (Ar (dL Tryz.underlying32 zK zU) (Ar (dL Tryz.underlying33 zL oh) (Ar (dL Tryz.underlying34 zM zV) (Ar (dI Tryz.underlying3) (Ar (dI Tryz.underlying3) (Ar (dI Tryz.underlying3) (Ar (dB Tryz.underlying4) (Ar (dI Tryz.underlying3) (Ar (dI Tryz.underlying3) (Ar (dI Tryz.underlying3) (Ar (dI Tryz.underlying3) (Ar (dI Tryz.underlying24) (Ar (dL Tryz.underlying31 OM (dI Tryz.underlying3)) (Ar (dI Tryz.underlying3) (Ar (dI Tryz.underlying3) E6))))))))))))))))))) hE;exact⟨⟨p.1,p.2.1,p.2.2.1,p.2.2.2.1,p.2.2.2.2.1,p.2.2.2.2.2.1,p.2.2.2.2.2.2.1,p.2.2.2.2.2.2.2.1,p.2.2.2.2.2.2.2.2.1,p.2.2.2.2.2.2.2.2.2.1,p.2.2.2.2.2.2.2.2.2.2.1,p.2.2.2.2.2.2.2.2.2.2.2.1,p.2.2.2.2.2.2.2.2.2.2.2.2.1,p.2.2.2.2.2.2.2.2.2.2.2.2.2.1,p.2.2.2.2.2.2.2.2.2.2.2.2.2.2.1,p.2.2.2.2.2.2.2.2.2.2.2.2.2.2.2.1,p.2.2.2.2.2.2.2.2.2.2.2.2.2.2.2.2.1,p.2.2.2.2.2.2.2.2.2.2.2.2.2.2.2.2.2.1,p.2.2.2.2.2.2.2.2.2.2.2.2.2.2.2.2.2.2.1⟩,h0.trans h1,h2⟩
end Go.PL
