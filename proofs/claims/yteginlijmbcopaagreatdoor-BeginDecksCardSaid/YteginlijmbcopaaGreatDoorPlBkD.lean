/- Functions of the program, as partial functions in Lean, with proofs. -/
import Derived.Test.YteginlijmbcopaaGreatDoorTqtoPlPx
import Derived.Test.YteginlijmbcopaaGreatDoorPlBkB
namespace Go.PL
open Go Go.RowKit Go.Proofs
set_option maxRecDepth 100000
set_option linter.all false
set_option maxHeartbeats 4000000
theorem xh:Tryz.prog.bytesOf 3=8:=by kernel_rfl
theorem AdY:Tryz.prog.bytesOf 9=16:=by kernel_rfl
theorem qJ:Tryz.prog.bytesOf 31=24:=by kernel_rfl
theorem xi:Tryz.prog.bytesOf 102=176:=by kernel_rfl
theorem xj:Tryz.prog.bytesOf 121=640:=by kernel_rfl
theorem lS:Tryz.prog.bytesOf 148=176:=by kernel_rfl
theorem xk:Tryz.prog.bytesOf 180=560:=by kernel_rfl
theorem xl:Tryz.prog.bytesOf 184=144:=by kernel_rfl
def AfG {α:Type} (ok:α->Prop) (a:A5 α):Prop:= ∀ y∈a.l,ok y
theorem dA5 {P:Program} {t e:TypeId} {n:Nat} {cs:List C} {α:Type} {enc:α->List C} {ok:α->Prop} (hu:P.underlying t=some (.array 5 e)) (hd: ∀ {n ds},Bo P n e ds-> ∃ x,ds=enc x/\ok x) (h:Bo P n t cs): ∃ a:A5 α,cs=eA5 enc a/\AfG ok a:=by
 obtain⟨l,h1,h2,h3⟩:=dA hu hd h;subst h2
 match l,h1,h3 with
 | [x0,x1,x2,x3,x4],_,h3=>exact⟨⟨x0,x1,x2,x3,x4⟩,rfl,h3⟩
def AfH {α:Type} (ok:α->Prop) (a:A6 α):Prop:= ∀ y∈a.l,ok y
theorem dA6 {P:Program} {t e:TypeId} {n:Nat} {cs:List C} {α:Type} {enc:α->List C} {ok:α->Prop} (hu:P.underlying t=some (.array 6 e)) (hd: ∀ {n ds},Bo P n e ds-> ∃ x,ds=enc x/\ok x) (h:Bo P n t cs): ∃ a:A6 α,cs=we enc a/\AfH ok a:=by
 obtain⟨l,h1,h2,h3⟩:=dA hu hd h;subst h2
 match l,h1,h3 with
 | [x0,x1,x2,x3,x4,x5],_,h3=>exact⟨⟨x0,x1,x2,x3,x4,x5⟩,rfl,h3⟩
def io (x:AG):Prop:=Kv .i64 x.Generic/\Kv .i64 x.X/\AfG (Kv .i64) x.Color/\True
theorem lT {n:Nat} {cs:List C} (h:Bo Tryz.prog n 99 cs): ∃ x:AG,cs=FJ x/\io x:=by obtain⟨m,Dp,h0,hE⟩:=Bq (ts:=[3,3,97]) Tryz.underlying99 rfl h;obtain⟨p,h1,h2⟩:=(AJ (dI Tryz.underlying3) (AJ (dI Tryz.underlying3) (AJ (dA5 Tryz.underlying97 (dI Tryz.underlying3)) Kw))) hE;exact⟨⟨p.1,p.2.1,p.2.2.1⟩,h0.trans h1,h2⟩
def qK (x:Nz):Prop:=Kv .i64 x.aiv/\Kv .i64 x.Types/\sH 16 (okS) x.af9/\True
theorem xm {n:Nat} {cs:List C} (h:Bo Tryz.prog n 96 cs): ∃ x:Nz,cs=YF x/\qK x:=by obtain⟨m,Dp,h0,hE⟩:=Bq (ts:=[3,3,94]) Tryz.underlying96 rfl h;obtain⟨p,h1,h2⟩:=(AJ (dI Tryz.underlying3) (AJ (dI Tryz.underlying3) (AJ (dL Tryz.underlying94 AdY (dS Tryz.underlying9)) Kw))) hE;exact⟨⟨p.1,p.2.1,p.2.2.1⟩,h0.trans h1,h2⟩
def SF (x:Aj):Prop:=Kv .i64 x.Kind/\Kv .i64 x.N/\True
theorem Uy {n:Nat} {cs:List C} (h:Bo Tryz.prog n 108 cs): ∃ x:Aj,cs=dD x/\SF x:=by obtain⟨m,Dp,h0,hE⟩:=Bq (ts:=[3,3]) Tryz.underlying108 rfl h;obtain⟨p,h1,h2⟩:=(AJ (dI Tryz.underlying3) (AJ (dI Tryz.underlying3) Kw)) hE;exact⟨⟨p.1,p.2.1⟩,h0.trans h1,h2⟩
def Fs (x:Aq):Prop:=Kv .i64 x.B_/\Kv .i64 x.Who/\Kv .i64 x.Self/\Kv .i64 x.Types/\Kv .i64 x.acT/\Kv .i64 x.ae5/\Kv .i64 x.ab3/\okS x.Sub/\Kv .i64 x.Keys/\Kv .i64 x.Tap/\SF x.Power/\SF x.acS/\SF x.Value/\True
theorem E8 {n:Nat} {cs:List C} (h:Bo Tryz.prog n 110 cs): ∃ x:Aq,cs=Cs x/\Fs x:=by obtain⟨m,Dp,h0,hE⟩:=Bq (ts:=[3,3,3,3,3,3,3,9,3,3,108,108,108]) Tryz.underlying110 rfl h;obtain⟨p,h1,h2⟩:=(AJ (dI Tryz.underlying3) (AJ (dI Tryz.underlying3) (AJ (dI Tryz.underlying3) (AJ (dI Tryz.underlying3) (AJ (dI Tryz.underlying3) (AJ (dI Tryz.underlying3) (AJ (dI Tryz.underlying3) (AJ (dS Tryz.underlying9) (AJ (dI Tryz.underlying3) (AJ (dI Tryz.underlying3) (AJ Uy (AJ Uy (AJ Uy Kw))))))))))))) hE;exact⟨⟨p.1,p.2.1,p.2.2.1,p.2.2.2.1,p.2.2.2.2.1,p.2.2.2.2.2.1,p.2.2.2.2.2.2.1,p.2.2.2.2.2.2.2.1,p.2.2.2.2.2.2.2.2.1,p.2.2.2.2.2.2.2.2.2.1,p.2.2.2.2.2.2.2.2.2.2.1,p.2.2.2.2.2.2.2.2.2.2.2.1,p.2.2.2.2.2.2.2.2.2.2.2.2.1⟩,h0.trans h1,h2⟩
def oZ (x:B4):Prop:=Kv .i64 x.Kind/\Kv .i64 x.N/\Kv .i64 x.M/\okS x.Sub/\Fs x.Filter/\True
theorem qL {n:Nat} {cs:List C} (h:Bo Tryz.prog n 148 cs): ∃ x:B4,cs=B1 x/\oZ x:=by obtain⟨m,Dp,h0,hE⟩:=Bq (ts:=[3,3,3,9,110]) Tryz.underlying148 rfl h;obtain⟨p,h1,h2⟩:=(AJ (dI Tryz.underlying3) (AJ (dI Tryz.underlying3) (AJ (dI Tryz.underlying3) (AJ (dS Tryz.underlying9) (AJ E8 Kw))))) hE;exact⟨⟨p.1,p.2.1,p.2.2.1,p.2.2.2.1,p.2.2.2.2.1⟩,h0.trans h1,h2⟩
def lU (x:CB):Prop:=io x.ah_/\okB x.Tap/\okB x.af_/\Kv .i64 x.adC/\True
theorem tn {n:Nat} {cs:List C} (h:Bo Tryz.prog n 113 cs): ∃ x:CB,cs=JN x/\lU x:=by obtain⟨m,Dp,h0,hE⟩:=Bq (ts:=[99,4,4,3]) Tryz.underlying113 rfl h;obtain⟨p,h1,h2⟩:=(AJ lT (AJ (dB Tryz.underlying4) (AJ (dB Tryz.underlying4) (AJ (dI Tryz.underlying3) Kw)))) hE;exact⟨⟨p.1,p.2.1,p.2.2.1,p.2.2.2.1⟩,h0.trans h1,h2⟩
def ZD (x:BB):Prop:=Kv .i64 x.akY/\Kv .i64 x.Who/\Fs x.Filter/\True
theorem lV {n:Nat} {cs:List C} (h:Bo Tryz.prog n 115 cs): ∃ x:BB,cs=GE x/\ZD x:=by obtain⟨m,Dp,h0,hE⟩:=Bq (ts:=[3,3,110]) Tryz.underlying115 rfl h;obtain⟨p,h1,h2⟩:=(AJ (dI Tryz.underlying3) (AJ (dI Tryz.underlying3) (AJ E8 Kw))) hE;exact⟨⟨p.1,p.2.1,p.2.2.1⟩,h0.trans h1,h2⟩
def qM (x:Ft):Prop:=okB x.acq/\okB x.Object/\Fs x.Filter/\True
theorem xn {n:Nat} {cs:List C} (h:Bo Tryz.prog n 184 cs): ∃ x:Ft,cs=B5 x/\qM x:=by obtain⟨m,Dp,h0,hE⟩:=Bq (ts:=[4,4,110]) Tryz.underlying184 rfl h;obtain⟨p,h1,h2⟩:=(AJ (dB Tryz.underlying4) (AJ (dB Tryz.underlying4) (AJ E8 Kw))) hE;exact⟨⟨p.1,p.2.1,p.2.2.1⟩,h0.trans h1,h2⟩
def xo (x:Mm):Prop:=Kv .i64 x.Kind/\Kv .i64 x.N/\Fs x.Filter/\True
theorem AaA {n:Nat} {cs:List C} (h:Bo Tryz.prog n 176 cs): ∃ x:Mm,cs=Pl x/\xo x:=by obtain⟨m,Dp,h0,hE⟩:=Bq (ts:=[3,3,110]) Tryz.underlying176 rfl h;obtain⟨p,h1,h2⟩:=(AJ (dI Tryz.underlying3) (AJ (dI Tryz.underlying3) (AJ E8 Kw))) hE;exact⟨⟨p.1,p.2.1,p.2.2.1⟩,h0.trans h1,h2⟩
def d8 (x:BC):Prop:=Kv .i64 x.Kind/\Kv .i64 x.N/\Kv .i64 x.Tl/\Fs x.Filter/\True
theorem o6 {n:Nat} {cs:List C} (h:Bo Tryz.prog n 178 cs): ∃ x:BC,cs=HK x/\d8 x:=by obtain⟨m,Dp,h0,hE⟩:=Bq (ts:=[3,3,3,110]) Tryz.underlying178 rfl h;obtain⟨p,h1,h2⟩:=(AJ (dI Tryz.underlying3) (AJ (dI Tryz.underlying3) (AJ (dI Tryz.underlying3) (AJ E8 Kw)))) hE;exact⟨⟨p.1,p.2.1,p.2.2.1,p.2.2.2.1⟩,h0.trans h1,h2⟩
def d9 (x:AA):Prop:=Kv .i64 x.Op/\xo x.Ref/\d8 x.aem/\Kv .i64 x.Tl/\Kv .i64 x.B_/\okS x.Ti/\Fs x.Filter/\AfH (Kv .i64) x.acj/\sH 176 (oZ) x.abn/\True
theorem o7 {n:Nat} {cs:List C} (h:Bo Tryz.prog n 180 cs): ∃ x:AA,cs=Bj x/\d9 x:=by obtain⟨m,Dp,h0,hE⟩:=Bq (ts:=[3,176,178,3,3,9,110,59,111]) Tryz.underlying180 rfl h;obtain⟨p,h1,h2⟩:=(AJ (dI Tryz.underlying3) (AJ AaA (AJ o6 (AJ (dI Tryz.underlying3) (AJ (dI Tryz.underlying3) (AJ (dS Tryz.underlying9) (AJ E8 (AJ (dA6 Tryz.underlying59 (dI Tryz.underlying3)) (AJ (dL Tryz.underlying111 lS qL) Kw))))))))) hE;exact⟨⟨p.1,p.2.1,p.2.2.1,p.2.2.2.1,p.2.2.2.2.1,p.2.2.2.2.2.1,p.2.2.2.2.2.2.1,p.2.2.2.2.2.2.2.1,p.2.2.2.2.2.2.2.2.1⟩,h0.trans h1,h2⟩
def ZE (x:Ay):Prop:=Kv .i64 x.On/\Kv .i64 x.Who/\Fs x.Filter/\Kv .i64 x.Do/\Kv .i64 x.N/\Kv .i64 x.B_/\Kv .i64 x.Tl/\True
theorem lW {n:Nat} {cs:List C} (h:Bo Tryz.prog n 119 cs): ∃ x:Ay,cs=GF x/\ZE x:=by obtain⟨m,Dp,h0,hE⟩:=Bq (ts:=[3,3,110,3,3,3,3]) Tryz.underlying119 rfl h;obtain⟨p,h1,h2⟩:=(AJ (dI Tryz.underlying3) (AJ (dI Tryz.underlying3) (AJ E8 (AJ (dI Tryz.underlying3) (AJ (dI Tryz.underlying3) (AJ (dI Tryz.underlying3) (AJ (dI Tryz.underlying3) Kw))))))) hE;exact⟨⟨p.1,p.2.1,p.2.2.1,p.2.2.2.1,p.2.2.2.2.1,p.2.2.2.2.2.1,p.2.2.2.2.2.2.1⟩,h0.trans h1,h2⟩
def ZF (x:AL):Prop:=Kv .i64 x.Kind/\Fs x.Filter/\sH 176 (oZ) x.abn/\lU x.ac4/\okB x.ah9/\ZD x.abb/\okB x.May/\sH 144 (qM) x.abd/\sH 560 (d9) x.G_/\ZE x.Replace/\True
theorem lX {n:Nat} {cs:List C} (h:Bo Tryz.prog n 121 cs): ∃ x:AL,cs=IE x/\ZF x:=by obtain⟨m,Dp,h0,hE⟩:=Bq (ts:=[3,110,111,113,4,115,4,116,117,119]) Tryz.underlying121 rfl h;obtain⟨p,h1,h2⟩:=(AJ (dI Tryz.underlying3) (AJ E8 (AJ (dL Tryz.underlying111 lS qL) (AJ tn (AJ (dB Tryz.underlying4) (AJ lV (AJ (dB Tryz.underlying4) (AJ (dL Tryz.underlying116 xl xn) (AJ (dL Tryz.underlying117 xk o7) (AJ lW Kw)))))))))) hE;exact⟨⟨p.1,p.2.1,p.2.2.1,p.2.2.2.1,p.2.2.2.2.1,p.2.2.2.2.2.1,p.2.2.2.2.2.2.1,p.2.2.2.2.2.2.2.1,p.2.2.2.2.2.2.2.2.1,p.2.2.2.2.2.2.2.2.2.1⟩,h0.trans h1,h2⟩
def iq (x:Bx):Prop:=okS x.Name/\okB x.Token/\io x.amj/\Kv .i64 x.Color/\qK x.agD/\Kv .i64 x.Power/\Kv .i64 x.acS/\Kv .i64 x.Keys/\sH 640 (ZF) x.z_/\True
theorem xp {n:Nat} {cs:List C} (h:Bo Tryz.prog n 102 cs): ∃ x:Bx,cs=YG x/\iq x:=by obtain⟨m,Dp,h0,hE⟩:=Bq (ts:=[9,4,99,3,96,3,3,3,100]) Tryz.underlying102 rfl h;obtain⟨p,h1,h2⟩:=(AJ (dS Tryz.underlying9) (AJ (dB Tryz.underlying4) (AJ lT (AJ (dI Tryz.underlying3) (AJ xm (AJ (dI Tryz.underlying3) (AJ (dI Tryz.underlying3) (AJ (dI Tryz.underlying3) (AJ (dL Tryz.underlying100 xj lX) Kw))))))))) hE;exact⟨⟨p.1,p.2.1,p.2.2.1,p.2.2.2.1,p.2.2.2.2.1,p.2.2.2.2.2.1,p.2.2.2.2.2.2.1,p.2.2.2.2.2.2.2.1,p.2.2.2.2.2.2.2.2.1⟩,h0.trans h1,h2⟩
def ec (x:Az):Prop:=sH 176 (iq) x.C_/\sH 24 (sH 8 (Kv .i64)) x.h_/\Kv .u64 x.ab2/\Kv .i64 x.Td/\True
theorem o8 {n:Nat} {cs:List C} (h:Bo Tryz.prog n 26 cs): ∃ x:Az,cs=M8 x/\ec x:=by obtain⟨m,Dp,h0,hE⟩:=Bq (ts:=[22,23,24,3]) Tryz.underlying26 rfl h;obtain⟨p,h1,h2⟩:=(AJ (dL Tryz.underlying22 xi xp) (AJ (dL Tryz.underlying23 qJ (dL Tryz.underlying31 xh (dI Tryz.underlying3))) (AJ (dI Tryz.underlying24) (AJ (dI Tryz.underlying3) Kw)))) hE;exact⟨⟨p.1,p.2.1,p.2.2.1,p.2.2.2.1⟩,h0.trans h1,h2⟩
end Go.PL
