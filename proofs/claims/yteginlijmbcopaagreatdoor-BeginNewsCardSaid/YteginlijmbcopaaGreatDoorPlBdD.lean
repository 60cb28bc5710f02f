/- Functions of the program, as partial functions in Lean, with proofs. -/
import Derived.Test.YteginlijmbcopaaGreatDoorTvtoPlPx
import Derived.Test.YteginlijmbcopaaGreatDoorPlBdB
namespace Go.PL
open Go Go.RowKit Go.Proofs
set_option maxRecDepth 100000
set_option linter.all false
set_option maxHeartbeats 4000000
theorem AgP:Tryz.prog.bytesOf 3=8:=by kernel_rfl
theorem AgQ:Tryz.prog.bytesOf 9=16:=by kernel_rfl
theorem AdF:Tryz.prog.bytesOf 31=24:=by kernel_rfl
theorem AaZ:Tryz.prog.bytesOf 102=176:=by kernel_rfl
theorem Aa0:Tryz.prog.bytesOf 121=640:=by kernel_rfl
theorem pV:Tryz.prog.bytesOf 148=176:=by kernel_rfl
theorem Aa1:Tryz.prog.bytesOf 180=560:=by kernel_rfl
theorem Aa2:Tryz.prog.bytesOf 184=144:=by kernel_rfl
def Aiy {α:Type} (ok:α->Prop) (a:A5 α):Prop:= ∀ y∈a.l,ok y
theorem dA5 {P:Program} {t e:TypeId} {n:Nat} {cs:List C} {α:Type} {enc:α->List C} {ok:α->Prop} (hu:P.underlying t=some (.array 5 e)) (hd: ∀ {n ds},Bz P n e ds-> ∃ x,ds=enc x/\ok x) (h:Bz P n t cs): ∃ a:A5 α,cs=eA5 enc a/\Aiy ok a:=by
 obtain⟨l,h1,h2,h3⟩:=dA hu hd h;subst h2
 match l,h1,h3 with
 | [x0,x1,x2,x3,x4],_,h3=>exact⟨⟨x0,x1,x2,x3,x4⟩,rfl,h3⟩
def Aiz {α:Type} (ok:α->Prop) (a:A6 α):Prop:= ∀ y∈a.l,ok y
theorem dA6 {P:Program} {t e:TypeId} {n:Nat} {cs:List C} {α:Type} {enc:α->List C} {ok:α->Prop} (hu:P.underlying t=some (.array 6 e)) (hd: ∀ {n ds},Bz P n e ds-> ∃ x,ds=enc x/\ok x) (h:Bz P n t cs): ∃ a:A6 α,cs=zM enc a/\Aiz ok a:=by
 obtain⟨l,h1,h2,h3⟩:=dA hu hd h;subst h2
 match l,h1,h3 with
 | [x0,x1,x2,x3,x4,x5],_,h3=>exact⟨⟨x0,x1,x2,x3,x4,x5⟩,rfl,h3⟩
def lG (x:Az):Prop:=KV .i64 x.Generic/\KV .i64 x.X/\Aiy (KV .i64) x.Color/\True
theorem pW {n:Nat} {cs:List C} (h:Bz Tryz.prog n 99 cs): ∃ x:Az,cs=Fz x/\lG x:=by obtain⟨m,Df,h0,hE⟩:=Br (ts:=[3,3,97]) Tryz.underlying99 rfl h;obtain⟨p,h1,h2⟩:=(AI (dI Tryz.underlying3) (AI (dI Tryz.underlying3) (AI (dA5 Tryz.underlying97 (dI Tryz.underlying3)) Kv))) hE;exact⟨⟨p.1,p.2.1,p.2.2.1⟩,h0.trans h1,h2⟩
def u0 (x:Ja):Prop:=KV .i64 x.afQ/\KV .i64 x.Types/\zG 16 (okS) x.adK/\True
theorem Aa3 {n:Nat} {cs:List C} (h:Bz Tryz.prog n 96 cs): ∃ x:Ja,cs=be x/\u0 x:=by obtain⟨m,Df,h0,hE⟩:=Br (ts:=[3,3,94]) Tryz.underlying96 rfl h;obtain⟨p,h1,h2⟩:=(AI (dI Tryz.underlying3) (AI (dI Tryz.underlying3) (AI (dL Tryz.underlying94 AgQ (dS Tryz.underlying9)) Kv))) hE;exact⟨⟨p.1,p.2.1,p.2.2.1⟩,h0.trans h1,h2⟩
def UM (x:Ac):Prop:=KV .i64 x.Kind/\KV .i64 x.N/\True
theorem Wu {n:Nat} {cs:List C} (h:Bz Tryz.prog n 108 cs): ∃ x:Ac,cs=hY x/\UM x:=by obtain⟨m,Df,h0,hE⟩:=Br (ts:=[3,3]) Tryz.underlying108 rfl h;obtain⟨p,h1,h2⟩:=(AI (dI Tryz.underlying3) (AI (dI Tryz.underlying3) Kv)) hE;exact⟨⟨p.1,p.2.1⟩,h0.trans h1,h2⟩
def Fe (x:Ag):Prop:=KV .i64 x.AT/\KV .i64 x.Who/\KV .i64 x.Self/\KV .i64 x.Types/\KV .i64 x.abw/\KV .i64 x.adM/\KV .i64 x.aaZ/\okS x.Sub/\KV .i64 x.Keys/\KV .i64 x.Tap/\UM x.Power/\UM x.abv/\UM x.Value/\True
theorem ER {n:Nat} {cs:List C} (h:Bz Tryz.prog n 110 cs): ∃ x:Ag,cs=Cn x/\Fe x:=by obtain⟨m,Df,h0,hE⟩:=Br (ts:=[3,3,3,3,3,3,3,9,3,3,108,108,108]) Tryz.underlying110 rfl h;obtain⟨p,h1,h2⟩:=(AI (dI Tryz.underlying3) (AI (dI Tryz.underlying3) (AI (dI Tryz.underlying3) (AI (dI Tryz.underlying3) (AI (dI Tryz.underlying3) (AI (dI Tryz.underlying3) (AI (dI Tryz.underlying3) (AI (dS Tryz.underlying9) (AI (dI Tryz.underlying3) (AI (dI Tryz.underlying3) (AI Wu (AI Wu (AI Wu Kv))))))))))))) hE;exact⟨⟨p.1,p.2.1,p.2.2.1,p.2.2.2.1,p.2.2.2.2.1,p.2.2.2.2.2.1,p.2.2.2.2.2.2.1,p.2.2.2.2.2.2.2.1,p.2.2.2.2.2.2.2.2.1,p.2.2.2.2.2.2.2.2.2.1,p.2.2.2.2.2.2.2.2.2.2.1,p.2.2.2.2.2.2.2.2.2.2.2.1,p.2.2.2.2.2.2.2.2.2.2.2.2.1⟩,h0.trans h1,h2⟩
def tl (x:AZ):Prop:=KV .i64 x.Kind/\KV .i64 x.N/\KV .i64 x.M/\okS x.Sub/\Fe x.Filter/\True
theorem u5 {n:Nat} {cs:List C} (h:Bz Tryz.prog n 148 cs): ∃ x:AZ,cs=BV x/\tl x:=by obtain⟨m,Df,h0,hE⟩:=Br (ts:=[3,3,3,9,110]) Tryz.underlying148 rfl h;obtain⟨p,h1,h2⟩:=(AI (dI Tryz.underlying3) (AI (dI Tryz.underlying3) (AI (dI Tryz.underlying3) (AI (dS Tryz.underlying9) (AI ER Kv))))) hE;exact⟨⟨p.1,p.2.1,p.2.2.1,p.2.2.2.1,p.2.2.2.2.1⟩,h0.trans h1,h2⟩
def pX (x:BX):Prop:=lG x.ahB/\okB x.Tap/\okB x.ahh/\KV .i64 x.adL/\True
theorem xn {n:Nat} {cs:List C} (h:Bz Tryz.prog n 113 cs): ∃ x:BX,cs=JH x/\pX x:=by obtain⟨m,Df,h0,hE⟩:=Br (ts:=[99,4,4,3]) Tryz.underlying113 rfl h;obtain⟨p,h1,h2⟩:=(AI pW (AI (dB Tryz.underlying4) (AI (dB Tryz.underlying4) (AI (dI Tryz.underlying3) Kv)))) hE;exact⟨⟨p.1,p.2.1,p.2.2.1,p.2.2.2.1⟩,h0.trans h1,h2⟩
def cZ (x:AY):Prop:=KV .i64 x.aiq/\KV .i64 x.Who/\Fe x.Filter/\True
theorem pY {n:Nat} {cs:List C} (h:Bz Tryz.prog n 115 cs): ∃ x:AY,cs=Gq x/\cZ x:=by obtain⟨m,Df,h0,hE⟩:=Br (ts:=[3,3,110]) Tryz.underlying115 rfl h;obtain⟨p,h1,h2⟩:=(AI (dI Tryz.underlying3) (AI (dI Tryz.underlying3) (AI ER Kv))) hE;exact⟨⟨p.1,p.2.1,p.2.2.1⟩,h0.trans h1,h2⟩
def u7 (x:Da):Prop:=okB x.acR/\okB x.Object/\Fe x.Filter/\True
theorem Aa4 {n:Nat} {cs:List C} (h:Bz Tryz.prog n 184 cs): ∃ x:Da,cs=BZ x/\u7 x:=by obtain⟨m,Df,h0,hE⟩:=Br (ts:=[4,4,110]) Tryz.underlying184 rfl h;obtain⟨p,h1,h2⟩:=(AI (dB Tryz.underlying4) (AI (dB Tryz.underlying4) (AI ER Kv))) hE;exact⟨⟨p.1,p.2.1,p.2.2.1⟩,h0.trans h1,h2⟩
def Aa5 (x:HF):Prop:=KV .i64 x.Kind/\KV .i64 x.N/\Fe x.Filter/\True
theorem AdG {n:Nat} {cs:List C} (h:Bz Tryz.prog n 176 cs): ∃ x:HF,cs=Qh x/\Aa5 x:=by obtain⟨m,Df,h0,hE⟩:=Br (ts:=[3,3,110]) Tryz.underlying176 rfl h;obtain⟨p,h1,h2⟩:=(AI (dI Tryz.underlying3) (AI (dI Tryz.underlying3) (AI ER Kv))) hE;exact⟨⟨p.1,p.2.1,p.2.2.1⟩,h0.trans h1,h2⟩
def iQ (x:AW):Prop:=KV .i64 x.Kind/\KV .i64 x.N/\KV .i64 x.r_/\Fe x.Filter/\True
theorem tn {n:Nat} {cs:List C} (h:Bz Tryz.prog n 178 cs): ∃ x:AW,cs=HG x/\iQ x:=by obtain⟨m,Df,h0,hE⟩:=Br (ts:=[3,3,3,110]) Tryz.underlying178 rfl h;obtain⟨p,h1,h2⟩:=(AI (dI Tryz.underlying3) (AI (dI Tryz.underlying3) (AI (dI Tryz.underlying3) (AI ER Kv)))) hE;exact⟨⟨p.1,p.2.1,p.2.2.1,p.2.2.2.1⟩,h0.trans h1,h2⟩
def iR (x:Av):Prop:=KV .i64 x.Op/\Aa5 x.Ref/\iQ x.adN/\KV .i64 x.r_/\KV .i64 x.AT/\okS x.ad1/\Fe x.Filter/\Aiz (KV .i64) x.abE/\zG 176 (tl) x.aap/\True
theorem tp {n:Nat} {cs:List C} (h:Bz Tryz.prog n 180 cs): ∃ x:Av,cs=Bk x/\iR x:=by obtain⟨m,Df,h0,hE⟩:=Br (ts:=[3,176,178,3,3,9,110,59,111]) Tryz.underlying180 rfl h;obtain⟨p,h1,h2⟩:=(AI (dI Tryz.underlying3) (AI AdG (AI tn (AI (dI Tryz.underlying3) (AI (dI Tryz.underlying3) (AI (dS Tryz.underlying9) (AI ER (AI (dA6 Tryz.underlying59 (dI Tryz.underlying3)) (AI (dL Tryz.underlying111 pV u5) Kv))))))))) hE;exact⟨⟨p.1,p.2.1,p.2.2.1,p.2.2.2.1,p.2.2.2.2.1,p.2.2.2.2.2.1,p.2.2.2.2.2.2.1,p.2.2.2.2.2.2.2.1,p.2.2.2.2.2.2.2.2.1⟩,h0.trans h1,h2⟩
def c9 (x:Au):Prop:=KV .i64 x.On/\KV .i64 x.Who/\Fe x.Filter/\KV .i64 x.Do/\KV .i64 x.N/\KV .i64 x.AT/\KV .i64 x.r_/\True
theorem pZ {n:Nat} {cs:List C} (h:Bz Tryz.prog n 119 cs): ∃ x:Au,cs=Gr x/\c9 x:=by obtain⟨m,Df,h0,hE⟩:=Br (ts:=[3,3,110,3,3,3,3]) Tryz.underlying119 rfl h;obtain⟨p,h1,h2⟩:=(AI (dI Tryz.underlying3) (AI (dI Tryz.underlying3) (AI ER (AI (dI Tryz.underlying3) (AI (dI Tryz.underlying3) (AI (dI Tryz.underlying3) (AI (dI Tryz.underlying3) Kv))))))) hE;exact⟨⟨p.1,p.2.1,p.2.2.1,p.2.2.2.1,p.2.2.2.2.1,p.2.2.2.2.2.1,p.2.2.2.2.2.2.1⟩,h0.trans h1,h2⟩
def da (x:AE):Prop:=KV .i64 x.Kind/\Fe x.Filter/\zG 176 (tl) x.aap/\pX x.acb/\okB x.ahg/\cZ x.aay/\okB x.May/\zG 144 (u7) x.aai/\zG 560 (iR) x.n_/\c9 x.Replace/\True
theorem p7 {n:Nat} {cs:List C} (h:Bz Tryz.prog n 121 cs): ∃ x:AE,cs=Iw x/\da x:=by obtain⟨m,Df,h0,hE⟩:=Br (ts:=[3,110,111,113,4,115,4,116,117,119]) Tryz.underlying121 rfl h;obtain⟨p,h1,h2⟩:=(AI (dI Tryz.underlying3) (AI ER (AI (dL Tryz.underlying111 pV u5) (AI xn (AI (dB Tryz.underlying4) (AI pY (AI (dB Tryz.underlying4) (AI (dL Tryz.underlying116 Aa2 Aa4) (AI (dL Tryz.underlying117 Aa1 tp) (AI pZ Kv)))))))))) hE;exact⟨⟨p.1,p.2.1,p.2.2.1,p.2.2.2.1,p.2.2.2.2.1,p.2.2.2.2.2.1,p.2.2.2.2.2.2.1,p.2.2.2.2.2.2.2.1,p.2.2.2.2.2.2.2.2.1,p.2.2.2.2.2.2.2.2.2.1⟩,h0.trans h1,h2⟩
def lH (x:AO):Prop:=okS x.Name/\okB x.Token/\lG x.akL/\KV .i64 x.Color/\u0 x.adu/\KV .i64 x.Power/\KV .i64 x.abv/\KV .i64 x.Keys/\zG 640 (da) x.j_/\True
theorem Aa6 {n:Nat} {cs:List C} (h:Bz Tryz.prog n 102 cs): ∃ x:AO,cs=bg x/\lH x:=by obtain⟨m,Df,h0,hE⟩:=Br (ts:=[9,4,99,3,96,3,3,3,100]) Tryz.underlying102 rfl h;obtain⟨p,h1,h2⟩:=(AI (dS Tryz.underlying9) (AI (dB Tryz.underlying4) (AI pW (AI (dI Tryz.underlying3) (AI Aa3 (AI (dI Tryz.underlying3) (AI (dI Tryz.underlying3) (AI (dI Tryz.underlying3) (AI (dL Tryz.underlying100 Aa0 p7) Kv))))))))) hE;exact⟨⟨p.1,p.2.1,p.2.2.1,p.2.2.2.1,p.2.2.2.2.1,p.2.2.2.2.2.1,p.2.2.2.2.2.2.1,p.2.2.2.2.2.2.2.1,p.2.2.2.2.2.2.2.2.1⟩,h0.trans h1,h2⟩
def iS (x:AA):Prop:=zG 176 (lH) x.aaG/\zG 24 (zG 8 (KV .i64)) x.i_/\KV .u64 x.adt/\KV .i64 x.aaX/\True
theorem tq {n:Nat} {cs:List C} (h:Bz Tryz.prog n 26 cs): ∃ x:AA,cs=Nn x/\iS x:=by obtain⟨m,Df,h0,hE⟩:=Br (ts:=[22,23,24,3]) Tryz.underlying26 rfl h;obtain⟨p,h1,h2⟩:=(AI (dL Tryz.underlying22 AaZ Aa6) (AI (dL Tryz.underlying23 AdF (dL Tryz.underlying31 AgP (dI Tryz.underlying3))) (AI (dI Tryz.underlying24) (AI (dI Tryz.underlying3) Kv)))) hE;exact⟨⟨p.1,p.2.1,p.2.2.1,p.2.2.2.1⟩,h0.trans h1,h2⟩
end Go.PL
