/- Functions of the program, as partial functions in Lean, with proofs. -/
import Derived.Test.YtenjiecnhncfiaaGreatDoorTuatoPlPc
import Derived.Test.YtenjiecnhncfiaaGreatDoorPlBeB
namespace Go.PL
open Go Go.RowKit Go.Proofs
set_option maxRecDepth 100000
set_option linter.all false
set_option maxHeartbeats 4000000
theorem Ae9:Tryz.prog.bytesOf 3=8:=by kernel_rfl
theorem Afa:Tryz.prog.bytesOf 9=16:=by kernel_rfl
theorem AbV:Tryz.prog.bytesOf 31=24:=by kernel_rfl
theorem AbW:Tryz.prog.bytesOf 51=176:=by kernel_rfl
theorem za:Tryz.prog.bytesOf 104=640:=by kernel_rfl
theorem zb:Tryz.prog.bytesOf 126=560:=by kernel_rfl
theorem ol:Tryz.prog.bytesOf 140=176:=by kernel_rfl
theorem zc:Tryz.prog.bytesOf 167=144:=by kernel_rfl
def AgT {α:Type} (ok:α->Prop) (a:A5 α):Prop:= ∀ y∈a.l,ok y
theorem dA5 {P:Program} {t e:TypeId} {n:Nat} {cs:List C} {α:Type} {enc:α->List C} {ok:α->Prop} (hu:P.underlying t=some (.array 5 e)) (hd: ∀ {n ds},Bu P n e ds-> ∃ x,ds=enc x/\ok x) (h:Bu P n t cs): ∃ a:A5 α,cs=eA5 enc a/\AgT ok a:=by
 obtain⟨l,h1,h2,h3⟩:=dA hu hd h;subst h2
 match l,h1,h3 with
 | [x0,x1,x2,x3,x4],_,h3=>exact⟨⟨x0,x1,x2,x3,x4⟩,rfl,h3⟩
def AgU {α:Type} (ok:α->Prop) (a:A6 α):Prop:= ∀ y∈a.l,ok y
theorem dA6 {P:Program} {t e:TypeId} {n:Nat} {cs:List C} {α:Type} {enc:α->List C} {ok:α->Prop} (hu:P.underlying t=some (.array 6 e)) (hd: ∀ {n ds},Bu P n e ds-> ∃ x,ds=enc x/\ok x) (h:Bu P n t cs): ∃ a:A6 α,cs=xU enc a/\AgU ok a:=by
 obtain⟨l,h1,h2,h3⟩:=dA hu hd h;subst h2
 match l,h1,h3 with
 | [x0,x1,x2,x3,x4,x5],_,h3=>exact⟨⟨x0,x1,x2,x3,x4,x5⟩,rfl,h3⟩
def kG (x:AB):Prop:=KJ .i64 x.Generic/\KJ .i64 x.X/\AgT (KJ .i64) x.Color/\True
theorem om {n:Nat} {cs:List C} (h:Bu Tryz.prog n 45 cs): ∃ x:AB,cs=Io x/\kG x:=by obtain⟨m,Dg,h0,hE⟩:=Bl (ts:=[3,3,43]) Tryz.underlying45 rfl h;obtain⟨p,h1,h2⟩:=(AI (dI Tryz.underlying3) (AI (dI Tryz.underlying3) (AI (dA5 Tryz.underlying43 (dI Tryz.underlying3)) Kl))) hE;exact⟨⟨p.1,p.2.1,p.2.2.1⟩,h0.trans h1,h2⟩
def tn (x:I1):Prop:=KJ .i64 x.aef/\KJ .i64 x.Types/\xO 16 (okS) x.abd/\True
theorem zd {n:Nat} {cs:List C} (h:Bu Tryz.prog n 48 cs): ∃ x:I1,cs=mQ x/\tn x:=by obtain⟨m,Dg,h0,hE⟩:=Bl (ts:=[3,3,46]) Tryz.underlying48 rfl h;obtain⟨p,h1,h2⟩:=(AI (dI Tryz.underlying3) (AI (dI Tryz.underlying3) (AI (dL Tryz.underlying46 Afa (dS Tryz.underlying9)) Kl))) hE;exact⟨⟨p.1,p.2.1,p.2.2.1⟩,h0.trans h1,h2⟩
def Uv (x:Af):Prop:=KJ .i64 x.Kind/\KJ .i64 x.N/\True
theorem Wc {n:Nat} {cs:List C} (h:Bu Tryz.prog n 91 cs): ∃ x:Af,cs=gB x/\Uv x:=by obtain⟨m,Dg,h0,hE⟩:=Bl (ts:=[3,3]) Tryz.underlying91 rfl h;obtain⟨p,h1,h2⟩:=(AI (dI Tryz.underlying3) (AI (dI Tryz.underlying3) Kl)) hE;exact⟨⟨p.1,p.2.1⟩,h0.trans h1,h2⟩
def E9 (x:Aj):Prop:=KJ .i64 x.q_/\KJ .i64 x.Who/\KJ .i64 x.Self/\KJ .i64 x.Types/\KJ .i64 x.w_/\KJ .i64 x.Tj/\KJ .i64 x.r_/\okS x.Sub/\KJ .i64 x.Keys/\KJ .i64 x.Tap/\Uv x.Power/\Uv x.v_/\Uv x.Value/\True
theorem EH {n:Nat} {cs:List C} (h:Bu Tryz.prog n 93 cs): ∃ x:Aj,cs=Kr x/\E9 x:=by obtain⟨m,Dg,h0,hE⟩:=Bl (ts:=[3,3,3,3,3,3,3,9,3,3,91,91,91]) Tryz.underlying93 rfl h;obtain⟨p,h1,h2⟩:=(AI (dI Tryz.underlying3) (AI (dI Tryz.underlying3) (AI (dI Tryz.underlying3) (AI (dI Tryz.underlying3) (AI (dI Tryz.underlying3) (AI (dI Tryz.underlying3) (AI (dI Tryz.underlying3) (AI (dS Tryz.underlying9) (AI (dI Tryz.underlying3) (AI (dI Tryz.underlying3) (AI Wc (AI Wc (AI Wc Kl))))))))))))) hE;exact⟨⟨p.1,p.2.1,p.2.2.1,p.2.2.2.1,p.2.2.2.2.1,p.2.2.2.2.2.1,p.2.2.2.2.2.2.1,p.2.2.2.2.2.2.2.1,p.2.2.2.2.2.2.2.2.1,p.2.2.2.2.2.2.2.2.2.1,p.2.2.2.2.2.2.2.2.2.2.1,p.2.2.2.2.2.2.2.2.2.2.2.1,p.2.2.2.2.2.2.2.2.2.2.2.2.1⟩,h0.trans h1,h2⟩
def ru (x:A1):Prop:=KJ .i64 x.Kind/\KJ .i64 x.N/\KJ .i64 x.M/\okS x.Sub/\E9 x.Filter/\True
theorem tp {n:Nat} {cs:List C} (h:Bu Tryz.prog n 140 cs): ∃ x:A1,cs=BE x/\ru x:=by obtain⟨m,Dg,h0,hE⟩:=Bl (ts:=[3,3,3,9,93]) Tryz.underlying140 rfl h;obtain⟨p,h1,h2⟩:=(AI (dI Tryz.underlying3) (AI (dI Tryz.underlying3) (AI (dI Tryz.underlying3) (AI (dS Tryz.underlying9) (AI EH Kl))))) hE;exact⟨⟨p.1,p.2.1,p.2.2.1,p.2.2.2.1,p.2.2.2.2.1⟩,h0.trans h1,h2⟩
def oo (x:BV):Prop:=kG x.aaH/\okB x.Tap/\okB x.acx/\KJ .i64 x.acL/\True
theorem vv {n:Nat} {cs:List C} (h:Bu Tryz.prog n 96 cs): ∃ x:BV,cs=Md x/\oo x:=by obtain⟨m,Dg,h0,hE⟩:=Bl (ts:=[45,4,4,3]) Tryz.underlying96 rfl h;obtain⟨p,h1,h2⟩:=(AI om (AI (dB Tryz.underlying4) (AI (dB Tryz.underlying4) (AI (dI Tryz.underlying3) Kl)))) hE;exact⟨⟨p.1,p.2.1,p.2.2.1,p.2.2.2.1⟩,h0.trans h1,h2⟩
def cW (x:A0):Prop:=KJ .i64 x.afJ/\KJ .i64 x.Who/\E9 x.Filter/\True
theorem ot {n:Nat} {cs:List C} (h:Bu Tryz.prog n 98 cs): ∃ x:A0,cs=Ip x/\cW x:=by obtain⟨m,Dg,h0,hE⟩:=Bl (ts:=[3,3,93]) Tryz.underlying98 rfl h;obtain⟨p,h1,h2⟩:=(AI (dI Tryz.underlying3) (AI (dI Tryz.underlying3) (AI EH Kl))) hE;exact⟨⟨p.1,p.2.1,p.2.2.1⟩,h0.trans h1,h2⟩
def tq (x:Dc):Prop:=okB x.ab0/\okB x.Object/\E9 x.Filter/\True
theorem ze {n:Nat} {cs:List C} (h:Bu Tryz.prog n 167 cs): ∃ x:Dc,cs=BL x/\tq x:=by obtain⟨m,Dg,h0,hE⟩:=Bl (ts:=[4,4,93]) Tryz.underlying167 rfl h;obtain⟨p,h1,h2⟩:=(AI (dB Tryz.underlying4) (AI (dB Tryz.underlying4) (AI EH Kl))) hE;exact⟨⟨p.1,p.2.1,p.2.2.1⟩,h0.trans h1,h2⟩
def zg (x:Ht):Prop:=KJ .i64 x.Kind/\KJ .i64 x.N/\E9 x.Filter/\True
theorem AbX {n:Nat} {cs:List C} (h:Bu Tryz.prog n 122 cs): ∃ x:Ht,cs=SU x/\zg x:=by obtain⟨m,Dg,h0,hE⟩:=Bl (ts:=[3,3,93]) Tryz.underlying122 rfl h;obtain⟨p,h1,h2⟩:=(AI (dI Tryz.underlying3) (AI (dI Tryz.underlying3) (AI EH Kl))) hE;exact⟨⟨p.1,p.2.1,p.2.2.1⟩,h0.trans h1,h2⟩
def hY (x:AY):Prop:=KJ .i64 x.Kind/\KJ .i64 x.N/\KJ .i64 x.o_/\E9 x.Filter/\True
theorem rx {n:Nat} {cs:List C} (h:Bu Tryz.prog n 124 cs): ∃ x:AY,cs=Ks x/\hY x:=by obtain⟨m,Dg,h0,hE⟩:=Bl (ts:=[3,3,3,93]) Tryz.underlying124 rfl h;obtain⟨p,h1,h2⟩:=(AI (dI Tryz.underlying3) (AI (dI Tryz.underlying3) (AI (dI Tryz.underlying3) (AI EH Kl)))) hE;exact⟨⟨p.1,p.2.1,p.2.2.1,p.2.2.2.1⟩,h0.trans h1,h2⟩
def hZ (x:Av):Prop:=KJ .i64 x.Op/\zg x.Ref/\hY x.M_/\KJ .i64 x.o_/\KJ .i64 x.q_/\okS x.ab1/\E9 x.Filter/\AgU (KJ .i64) x.abe/\xO 176 (ru) x.Tg/\True
theorem ry {n:Nat} {cs:List C} (h:Bu Tryz.prog n 126 cs): ∃ x:Av,cs=A7 x/\hZ x:=by obtain⟨m,Dg,h0,hE⟩:=Bl (ts:=[3,122,124,3,3,9,93,57,94]) Tryz.underlying126 rfl h;obtain⟨p,h1,h2⟩:=(AI (dI Tryz.underlying3) (AI AbX (AI rx (AI (dI Tryz.underlying3) (AI (dI Tryz.underlying3) (AI (dS Tryz.underlying9) (AI EH (AI (dA6 Tryz.underlying57 (dI Tryz.underlying3)) (AI (dL Tryz.underlying94 ol tp) Kl))))))))) hE;exact⟨⟨p.1,p.2.1,p.2.2.1,p.2.2.2.1,p.2.2.2.2.1,p.2.2.2.2.2.1,p.2.2.2.2.2.2.1,p.2.2.2.2.2.2.2.1,p.2.2.2.2.2.2.2.2.1⟩,h0.trans h1,h2⟩
def cX (x:Au):Prop:=KJ .i64 x.On/\KJ .i64 x.Who/\E9 x.Filter/\KJ .i64 x.Do/\KJ .i64 x.N/\KJ .i64 x.q_/\KJ .i64 x.o_/\True
theorem ov {n:Nat} {cs:List C} (h:Bu Tryz.prog n 102 cs): ∃ x:Au,cs=Iq x/\cX x:=by obtain⟨m,Dg,h0,hE⟩:=Bl (ts:=[3,3,93,3,3,3,3]) Tryz.underlying102 rfl h;obtain⟨p,h1,h2⟩:=(AI (dI Tryz.underlying3) (AI (dI Tryz.underlying3) (AI EH (AI (dI Tryz.underlying3) (AI (dI Tryz.underlying3) (AI (dI Tryz.underlying3) (AI (dI Tryz.underlying3) Kl))))))) hE;exact⟨⟨p.1,p.2.1,p.2.2.1,p.2.2.2.1,p.2.2.2.2.1,p.2.2.2.2.2.1,p.2.2.2.2.2.2.1⟩,h0.trans h1,h2⟩
def cY (x:AE):Prop:=KJ .i64 x.Kind/\E9 x.Filter/\xO 176 (ru) x.Tg/\oo x.y_/\okB x.ac0/\cW x.c_/\okB x.May/\xO 144 (tq) x.D_/\xO 560 (hZ) x.f_/\cX x.Replace/\True
theorem oz {n:Nat} {cs:List C} (h:Bu Tryz.prog n 104 cs): ∃ x:AE,cs=O4 x/\cY x:=by obtain⟨m,Dg,h0,hE⟩:=Bl (ts:=[3,93,94,96,4,98,4,99,100,102]) Tryz.underlying104 rfl h;obtain⟨p,h1,h2⟩:=(AI (dI Tryz.underlying3) (AI EH (AI (dL Tryz.underlying94 ol tp) (AI vv (AI (dB Tryz.underlying4) (AI ot (AI (dB Tryz.underlying4) (AI (dL Tryz.underlying99 zc ze) (AI (dL Tryz.underlying100 zb ry) (AI ov Kl)))))))))) hE;exact⟨⟨p.1,p.2.1,p.2.2.1,p.2.2.2.1,p.2.2.2.2.1,p.2.2.2.2.2.1,p.2.2.2.2.2.2.1,p.2.2.2.2.2.2.2.1,p.2.2.2.2.2.2.2.2.1,p.2.2.2.2.2.2.2.2.2.1⟩,h0.trans h1,h2⟩
def kH (x:AO):Prop:=okS x.Name/\okB x.Token/\kG x.ae3/\KJ .i64 x.Color/\tn x.aci/\KJ .i64 x.Power/\KJ .i64 x.v_/\KJ .i64 x.Keys/\xO 640 (cY) x.g_/\True
theorem zh {n:Nat} {cs:List C} (h:Bu Tryz.prog n 51 cs): ∃ x:AO,cs=a8 x/\kH x:=by obtain⟨m,Dg,h0,hE⟩:=Bl (ts:=[9,4,45,3,48,3,3,3,49]) Tryz.underlying51 rfl h;obtain⟨p,h1,h2⟩:=(AI (dS Tryz.underlying9) (AI (dB Tryz.underlying4) (AI om (AI (dI Tryz.underlying3) (AI zd (AI (dI Tryz.underlying3) (AI (dI Tryz.underlying3) (AI (dI Tryz.underlying3) (AI (dL Tryz.underlying49 za oz) Kl))))))))) hE;exact⟨⟨p.1,p.2.1,p.2.2.1,p.2.2.2.1,p.2.2.2.2.1,p.2.2.2.2.2.1,p.2.2.2.2.2.2.1,p.2.2.2.2.2.2.2.1,p.2.2.2.2.2.2.2.2.1⟩,h0.trans h1,h2⟩
def ia (x:AH):Prop:=xO 176 (kH) x.aak/\xO 24 (xO 8 (KJ .i64)) x.l_/\KJ .u64 x.adH/\KJ .i64 x.aaO/\True
theorem rz {n:Nat} {cs:List C} (h:Bu Tryz.prog n 26 cs): ∃ x:AH,cs=Nd x/\ia x:=by obtain⟨m,Dg,h0,hE⟩:=Bl (ts:=[22,23,24,3]) Tryz.underlying26 rfl h;obtain⟨p,h1,h2⟩:=(AI (dL Tryz.underlying22 AbW zh) (AI (dL Tryz.underlying23 AbV (dL Tryz.underlying31 Ae9 (dI Tryz.underlying3))) (AI (dI Tryz.underlying24) (AI (dI Tryz.underlying3) Kl)))) hE;exact⟨⟨p.1,p.2.1,p.2.2.1,p.2.2.2.1⟩,h0.trans h1,h2⟩
end Go.PL
