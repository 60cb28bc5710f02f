/- Functions of the program, as partial functions in Lean, with proofs. -/
import Derived.Test.YtekonfaeacligaaGreatDoorPlRtoPlPg
import Derived.Test.YtekonfaeacligaaGreatDoorPlLsB
namespace Go.PL
open Go Go.RowKit Go.Proofs
set_option maxRecDepth 100000
set_option linter.all false
set_option maxHeartbeats 4000000
theorem NQ:Tryz.prog.bytesOf 3=8:=by kernel_rfl
theorem AbZ:Tryz.prog.bytesOf 9=16:=by kernel_rfl
theorem xU:Tryz.prog.bytesOf 52=152:=by kernel_rfl
theorem xV:Tryz.prog.bytesOf 70=640:=by kernel_rfl
theorem xW:Tryz.prog.bytesOf 76=824:=by kernel_rfl
theorem xX:Tryz.prog.bytesOf 79=768:=by kernel_rfl
theorem xY:Tryz.prog.bytesOf 81=80:=by kernel_rfl
theorem xZ:Tryz.prog.bytesOf 88=176:=by kernel_rfl
theorem x6:Tryz.prog.bytesOf 94=128:=by kernel_rfl
theorem WG:Tryz.prog.bytesOf 100=176:=by kernel_rfl
theorem uC:Tryz.prog.bytesOf 102=144:=by kernel_rfl
theorem uD:Tryz.prog.bytesOf 112=560:=by kernel_rfl
theorem uE:Tryz.prog.bytesOf 212=16:=by kernel_rfl
def Ab0 {α:Type} (ok:α->Prop) (a:A3 α):Prop:= ∀ y∈a.l,ok y
theorem dA3 {P:Program} {t e:TypeId} {n:Nat} {cs:List C} {α:Type} {enc:α->List C} {ok:α->Prop} (hu:P.underlying t=some (.array 3 e)) (hd: ∀ {n ds},AM P n e ds-> ∃ x,ds=enc x/\ok x) (h:AM P n t cs): ∃ a:A3 α,cs=eA3 enc a/\Ab0 ok a:=by
 obtain⟨l,h1,h2,h3⟩:=dA hu hd h;subst h2
 match l,h1,h3 with
 | [x0,x1,x2],_,h3=>exact⟨⟨x0,x1,x2⟩,rfl,h3⟩
def AdV {α:Type} (ok:α->Prop) (a:A5 α):Prop:= ∀ y∈a.l,ok y
theorem dA5 {P:Program} {t e:TypeId} {n:Nat} {cs:List C} {α:Type} {enc:α->List C} {ok:α->Prop} (hu:P.underlying t=some (.array 5 e)) (hd: ∀ {n ds},AM P n e ds-> ∃ x,ds=enc x/\ok x) (h:AM P n t cs): ∃ a:A5 α,cs=eA5 enc a/\AdV ok a:=by
 obtain⟨l,h1,h2,h3⟩:=dA hu hd h;subst h2
 match l,h1,h3 with
 | [x0,x1,x2,x3,x4],_,h3=>exact⟨⟨x0,x1,x2,x3,x4⟩,rfl,h3⟩
def Ab1 {α:Type} (ok:α->Prop) (a:A6 α):Prop:= ∀ y∈a.l,ok y
theorem dA6 {P:Program} {t e:TypeId} {n:Nat} {cs:List C} {α:Type} {enc:α->List C} {ok:α->Prop} (hu:P.underlying t=some (.array 6 e)) (hd: ∀ {n ds},AM P n e ds-> ∃ x,ds=enc x/\ok x) (h:AM P n t cs): ∃ a:A6 α,cs=eA6 enc a/\Ab1 ok a:=by
 obtain⟨l,h1,h2,h3⟩:=dA hu hd h;subst h2
 match l,h1,h3 with
 | [x0,x1,x2,x3,x4,x5],_,h3=>exact⟨⟨x0,x1,x2,x3,x4,x5⟩,rfl,h3⟩
def bV (x:AJ):Prop:=BS .i64 x.Generic/\BS .i64 x.X/\AdV (BS .i64) x.Color/\True
theorem gV {n:Nat} {cs:List C} (h:AM Tryz.prog n 60 cs): ∃ x:AJ,cs=Hs x/\bV x:=by obtain⟨m,B2,h0,hE⟩:=Az (ts:=[3,3,58]) Tryz.underlying60 rfl h;obtain⟨p,h1,h2⟩:=(Ah (dI Tryz.underlying3) (Ah (dI Tryz.underlying3) (Ah (dA5 Tryz.underlying58 (dI Tryz.underlying3)) Dc))) hE;exact⟨⟨p.1,p.2.1,p.2.2.1⟩,h0.trans h1,h2⟩
def nh (x:Ky):Prop:=BS .i64 x.ac4/\BS .i64 x.Types/\SD 16 (okS) x.acJ/\True
theorem uF {n:Nat} {cs:List C} (h:AM Tryz.prog n 85 cs): ∃ x:Ky,cs=VJ x/\nh x:=by obtain⟨m,B2,h0,hE⟩:=Az (ts:=[3,3,83]) Tryz.underlying85 rfl h;obtain⟨p,h1,h2⟩:=(Ah (dI Tryz.underlying3) (Ah (dI Tryz.underlying3) (Ah (dL Tryz.underlying83 AbZ (dS Tryz.underlying9)) Dc))) hE;exact⟨⟨p.1,p.2.1,p.2.2.1⟩,h0.trans h1,h2⟩
def Pv (x:Ag):Prop:=BS .i64 x.Kind/\BS .i64 x.N/\True
theorem QN {n:Nat} {cs:List C} (h:AM Tryz.prog n 54 cs): ∃ x:Ag,cs=YN x/\Pv x:=by obtain⟨m,B2,h0,hE⟩:=Az (ts:=[3,3]) Tryz.underlying54 rfl h;obtain⟨p,h1,h2⟩:=(Ah (dI Tryz.underlying3) (Ah (dI Tryz.underlying3) Dc)) hE;exact⟨⟨p.1,p.2.1⟩,h0.trans h1,h2⟩
def DA (x:Am):Prop:=BS .i64 x.F_/\BS .i64 x.Who/\BS .i64 x.Self/\BS .i64 x.Types/\BS .i64 x.abo/\BS .i64 x.ac1/\BS .i64 x.aaY/\okS x.Sub/\BS .i64 x.Keys/\BS .i64 x.Tap/\Pv x.Power/\Pv x.aa9/\Pv x.Value/\True
theorem Dv {n:Nat} {cs:List C} (h:AM Tryz.prog n 56 cs): ∃ x:Am,cs=BD x/\DA x:=by obtain⟨m,B2,h0,hE⟩:=Az (ts:=[3,3,3,3,3,3,3,9,3,3,54,54,54]) Tryz.underlying56 rfl h;obtain⟨p,h1,h2⟩:=(Ah (dI Tryz.underlying3) (Ah (dI Tryz.underlying3) (Ah (dI Tryz.underlying3) (Ah (dI Tryz.underlying3) (Ah (dI Tryz.underlying3) (Ah (dI Tryz.underlying3) (Ah (dI Tryz.underlying3) (Ah (dS Tryz.underlying9) (Ah (dI Tryz.underlying3) (Ah (dI Tryz.underlying3) (Ah QN (Ah QN (Ah QN Dc))))))))))))) hE;exact⟨⟨p.1,p.2.1,p.2.2.1,p.2.2.2.1,p.2.2.2.2.1,p.2.2.2.2.2.1,p.2.2.2.2.2.2.1,p.2.2.2.2.2.2.2.1,p.2.2.2.2.2.2.2.2.1,p.2.2.2.2.2.2.2.2.2.1,p.2.2.2.2.2.2.2.2.2.2.1,p.2.2.2.2.2.2.2.2.2.2.2.1,p.2.2.2.2.2.2.2.2.2.2.2.2.1⟩,h0.trans h1,h2⟩
def bW (x:BG):Prop:=BS .i64 x.Kind/\BS .i64 x.N/\BS .i64 x.M/\okS x.Sub/\DA x.Filter/\True
theorem bX {n:Nat} {cs:List C} (h:AM Tryz.prog n 100 cs): ∃ x:BG,cs=H7 x/\bW x:=by obtain⟨m,B2,h0,hE⟩:=Az (ts:=[3,3,3,9,56]) Tryz.underlying100 rfl h;obtain⟨p,h1,h2⟩:=(Ah (dI Tryz.underlying3) (Ah (dI Tryz.underlying3) (Ah (dI Tryz.underlying3) (Ah (dS Tryz.underlying9) (Ah Dv Dc))))) hE;exact⟨⟨p.1,p.2.1,p.2.2.1,p.2.2.2.1,p.2.2.2.2.1⟩,h0.trans h1,h2⟩
def gW (x:CL):Prop:=bV x.agn/\ZQ x.Tap/\ZQ x.aej/\BS .i64 x.ad4/\True
theorem pW {n:Nat} {cs:List C} (h:AM Tryz.prog n 62 cs): ∃ x:CL,cs=GF x/\gW x:=by obtain⟨m,B2,h0,hE⟩:=Az (ts:=[60,4,4,3]) Tryz.underlying62 rfl h;obtain⟨p,h1,h2⟩:=(Ah gV (Ah (dB Tryz.underlying4) (Ah (dB Tryz.underlying4) (Ah (dI Tryz.underlying3) Dc)))) hE;exact⟨⟨p.1,p.2.1,p.2.2.1,p.2.2.2.1⟩,h0.trans h1,h2⟩
def WH (x:Bu):Prop:=BS .i64 x.afA/\BS .i64 x.Who/\DA x.Filter/\True
theorem gX {n:Nat} {cs:List C} (h:AM Tryz.prog n 64 cs): ∃ x:Bu,cs=Ej x/\WH x:=by obtain⟨m,B2,h0,hE⟩:=Az (ts:=[3,3,56]) Tryz.underlying64 rfl h;obtain⟨p,h1,h2⟩:=(Ah (dI Tryz.underlying3) (Ah (dI Tryz.underlying3) (Ah Dv Dc))) hE;exact⟨⟨p.1,p.2.1,p.2.2.1⟩,h0.trans h1,h2⟩
def ni (x:Dr):Prop:=ZQ x.abh/\ZQ x.Object/\DA x.Filter/\True
theorem uG {n:Nat} {cs:List C} (h:AM Tryz.prog n 102 cs): ∃ x:Dr,cs=Jb x/\ni x:=by obtain⟨m,B2,h0,hE⟩:=Az (ts:=[4,4,56]) Tryz.underlying102 rfl h;obtain⟨p,h1,h2⟩:=(Ah (dB Tryz.underlying4) (Ah (dB Tryz.underlying4) (Ah Dv Dc))) hE;exact⟨⟨p.1,p.2.1,p.2.2.1⟩,h0.trans h1,h2⟩
def uH (x:ME):Prop:=BS .i64 x.Kind/\BS .i64 x.N/\DA x.Filter/\True
theorem x7 {n:Nat} {cs:List C} (h:AM Tryz.prog n 108 cs): ∃ x:ME,cs=Mj x/\uH x:=by obtain⟨m,B2,h0,hE⟩:=Az (ts:=[3,3,56]) Tryz.underlying108 rfl h;obtain⟨p,h1,h2⟩:=(Ah (dI Tryz.underlying3) (Ah (dI Tryz.underlying3) (Ah Dv Dc))) hE;exact⟨⟨p.1,p.2.1,p.2.2.1⟩,h0.trans h1,h2⟩
def Zi (x:B9):Prop:=BS .i64 x.Kind/\BS .i64 x.N/\BS .i64 x.q_/\DA x.Filter/\True
theorem li {n:Nat} {cs:List C} (h:AM Tryz.prog n 110 cs): ∃ x:B9,cs=Fc x/\Zi x:=by obtain⟨m,B2,h0,hE⟩:=Az (ts:=[3,3,3,56]) Tryz.underlying110 rfl h;obtain⟨p,h1,h2⟩:=(Ah (dI Tryz.underlying3) (Ah (dI Tryz.underlying3) (Ah (dI Tryz.underlying3) (Ah Dv Dc)))) hE;exact⟨⟨p.1,p.2.1,p.2.2.1,p.2.2.2.1⟩,h0.trans h1,h2⟩
def Zj (x:AI):Prop:=BS .i64 x.Op/\uH x.Ref/\Zi x.abj/\BS .i64 x.q_/\BS .i64 x.F_/\okS x.abF/\DA x.Filter/\Ab1 (BS .i64) x.aa_/\SD 176 (bW) x.N_/\True
theorem lj {n:Nat} {cs:List C} (h:AM Tryz.prog n 112 cs): ∃ x:AI,cs=NH x/\Zj x:=by obtain⟨m,B2,h0,hE⟩:=Az (ts:=[3,108,110,3,3,9,56,50,57]) Tryz.underlying112 rfl h;obtain⟨p,h1,h2⟩:=(Ah (dI Tryz.underlying3) (Ah x7 (Ah li (Ah (dI Tryz.underlying3) (Ah (dI Tryz.underlying3) (Ah (dS Tryz.underlying9) (Ah Dv (Ah (dA6 Tryz.underlying50 (dI Tryz.underlying3)) (Ah (dL Tryz.underlying57 WG bX) Dc))))))))) hE;exact⟨⟨p.1,p.2.1,p.2.2.1,p.2.2.2.1,p.2.2.2.2.1,p.2.2.2.2.2.1,p.2.2.2.2.2.2.1,p.2.2.2.2.2.2.2.1,p.2.2.2.2.2.2.2.2.1⟩,h0.trans h1,h2⟩
def WI (x:Bk):Prop:=BS .i64 x.On/\BS .i64 x.Who/\DA x.Filter/\BS .i64 x.Do/\BS .i64 x.N/\BS .i64 x.F_/\BS .i64 x.q_/\True
theorem gY {n:Nat} {cs:List C} (h:AM Tryz.prog n 68 cs): ∃ x:Bk,cs=Ek x/\WI x:=by obtain⟨m,B2,h0,hE⟩:=Az (ts:=[3,3,56,3,3,3,3]) Tryz.underlying68 rfl h;obtain⟨p,h1,h2⟩:=(Ah (dI Tryz.underlying3) (Ah (dI Tryz.underlying3) (Ah Dv (Ah (dI Tryz.underlying3) (Ah (dI Tryz.underlying3) (Ah (dI Tryz.underlying3) (Ah (dI Tryz.underlying3) Dc))))))) hE;exact⟨⟨p.1,p.2.1,p.2.2.1,p.2.2.2.1,p.2.2.2.2.1,p.2.2.2.2.2.1,p.2.2.2.2.2.2.1⟩,h0.trans h1,h2⟩
def HH (x:AB):Prop:=BS .i64 x.Kind/\DA x.Filter/\SD 176 (bW) x.N_/\gW x.aek/\ZQ x.ahl/\WH x.aby/\ZQ x.May/\SD 144 (ni) x.aam/\SD 560 (Zj) x.B_/\WI x.Replace/\True
theorem LT {n:Nat} {cs:List C} (h:AM Tryz.prog n 70 cs): ∃ x:AB,cs=FL x/\HH x:=by obtain⟨m,B2,h0,hE⟩:=Az (ts:=[3,56,57,62,4,64,4,65,66,68]) Tryz.underlying70 rfl h;obtain⟨p,h1,h2⟩:=(Ah (dI Tryz.underlying3) (Ah Dv (Ah (dL Tryz.underlying57 WG bX) (Ah pW (Ah (dB Tryz.underlying4) (Ah gX (Ah (dB Tryz.underlying4) (Ah (dL Tryz.underlying65 uC uG) (Ah (dL Tryz.underlying66 uD lj) (Ah gY Dc)))))))))) hE;exact⟨⟨p.1,p.2.1,p.2.2.1,p.2.2.2.1,p.2.2.2.2.1,p.2.2.2.2.2.1,p.2.2.2.2.2.2.1,p.2.2.2.2.2.2.2.1,p.2.2.2.2.2.2.2.2.1,p.2.2.2.2.2.2.2.2.2.1⟩,h0.trans h1,h2⟩
def bY (x:A4):Prop:=okS x.Name/\ZQ x.Token/\bV x.ago/\BS .i64 x.Color/\nh x.acd/\BS .i64 x.Power/\BS .i64 x.aa9/\BS .i64 x.Keys/\SD 640 (HH) x.i_/\True
theorem uI {n:Nat} {cs:List C} (h:AM Tryz.prog n 88 cs): ∃ x:A4,cs=VK x/\bY x:=by obtain⟨m,B2,h0,hE⟩:=Az (ts:=[9,4,60,3,85,3,3,3,86]) Tryz.underlying88 rfl h;obtain⟨p,h1,h2⟩:=(Ah (dS Tryz.underlying9) (Ah (dB Tryz.underlying4) (Ah gV (Ah (dI Tryz.underlying3) (Ah uF (Ah (dI Tryz.underlying3) (Ah (dI Tryz.underlying3) (Ah (dI Tryz.underlying3) (Ah (dL Tryz.underlying86 xV LT) Dc))))))))) hE;exact⟨⟨p.1,p.2.1,p.2.2.1,p.2.2.2.1,p.2.2.2.2.1,p.2.2.2.2.2.1,p.2.2.2.2.2.2.1,p.2.2.2.2.2.2.2.1,p.2.2.2.2.2.2.2.2.1⟩,h0.trans h1,h2⟩
def Zk (x:JN):Prop:=BS .i64 x.ad4/\BS .i64 x.ahj/\BS .i64 x.ahm/\Ab1 (BS .i64) x.aa_/\ZQ x.ahn/\ZQ x.amB/\SD 8 (BS .i64) x.aaV/\SD 8 (BS .i64) x.Hand/\SD 8 (BS .i64) x.aaF/\True
theorem ll {n:Nat} {cs:List C} (h:AM Tryz.prog n 52 cs): ∃ x:JN,cs=NI x/\Zk x:=by obtain⟨m,B2,h0,hE⟩:=Az (ts:=[3,3,3,50,4,4,25,25,25]) Tryz.underlying52 rfl h;obtain⟨p,h1,h2⟩:=(Ah (dI Tryz.underlying3) (Ah (dI Tryz.underlying3) (Ah (dI Tryz.underlying3) (Ah (dA6 Tryz.underlying50 (dI Tryz.underlying3)) (Ah (dB Tryz.underlying4) (Ah (dB Tryz.underlying4) (Ah (dL Tryz.underlying25 NQ (dI Tryz.underlying3)) (Ah (dL Tryz.underlying25 NQ (dI Tryz.underlying3)) (Ah (dL Tryz.underlying25 NQ (dI Tryz.underlying3)) Dc))))))))) hE;exact⟨⟨p.1,p.2.1,p.2.2.1,p.2.2.2.1,p.2.2.2.2.1,p.2.2.2.2.2.1,p.2.2.2.2.2.2.1,p.2.2.2.2.2.2.2.1,p.2.2.2.2.2.2.2.2.1⟩,h0.trans h1,h2⟩
def Zl (x:Ba):Prop:=BS .i64 x.Id/\BS .i64 x.abF/\BS .i64 x.acK/\BS .i64 x.Control/\BS .i64 x.F_/\ZQ x.Token/\ZQ x.acZ/\ZQ x.ajS/\ZQ x.afB/\BS .i64 x.adG/\Ab0 (BS .i64) x.Counters/\BS .i64 x.abC/\BS .i64 x.afC/\BS .i64 x.adI/\ZQ x.aeE/\BS .i64 x.adH/\BS .i64 x.adF/\True
theorem lm {n:Nat} {cs:List C} (h:AM Tryz.prog n 94 cs): ∃ x:Ba,cs=Fd x/\Zl x:=by obtain⟨m,B2,h0,hE⟩:=Az (ts:=[3,3,3,3,3,4,4,4,4,3,72,3,3,3,4,3,3]) Tryz.underlying94 rfl h;obtain⟨p,h1,h2⟩:=(Ah (dI Tryz.underlying3) (Ah (dI Tryz.underlying3) (Ah (dI Tryz.underlying3) (Ah (dI Tryz.underlying3) (Ah (dI Tryz.underlying3) (Ah (dB Tryz.underlying4) (Ah (dB Tryz.underlying4) (Ah (dB Tryz.underlying4) (Ah (dB Tryz.underlying4) (Ah (dI Tryz.underlying3) (Ah (dA3 Tryz.underlying72 (dI Tryz.underlying3)) (Ah (dI Tryz.underlying3) (Ah (dI Tryz.underlying3) (Ah (dI Tryz.underlying3) (Ah (dB Tryz.underlying4) (Ah (dI Tryz.underlying3) (Ah (dI Tryz.underlying3) Dc))))))))))))))))) hE;exact⟨⟨p.1,p.2.1,p.2.2.1,p.2.2.2.1,p.2.2.2.2.1,p.2.2.2.2.2.1,p.2.2.2.2.2.2.1,p.2.2.2.2.2.2.2.1,p.2.2.2.2.2.2.2.2.1,p.2.2.2.2.2.2.2.2.2.1,p.2.2.2.2.2.2.2.2.2.2.1,p.2.2.2.2.2.2.2.2.2.2.2.1,p.2.2.2.2.2.2.2.2.2.2.2.2.1,p.2.2.2.2.2.2.2.2.2.2.2.2.2.1,p.2.2.2.2.2.2.2.2.2.2.2.2.2.2.1,p.2.2.2.2.2.2.2.2.2.2.2.2.2.2.2.1,p.2.2.2.2.2.2.2.2.2.2.2.2.2.2.2.2.1⟩,h0.trans h1,h2⟩
def Zm (x:JO):Prop:=BS .i64 x.Object/\BS .i64 x.abh/\True
theorem lq {n:Nat} {cs:List C} (h:AM Tryz.prog n 212 cs): ∃ x:JO,cs=NJ x/\Zm x:=by obtain⟨m,B2,h0,hE⟩:=Az (ts:=[3,3]) Tryz.underlying212 rfl h;obtain⟨p,h1,h2⟩:=(Ah (dI Tryz.underlying3) (Ah (dI Tryz.underlying3) Dc)) hE;exact⟨⟨p.1,p.2.1⟩,h0.trans h1,h2⟩
def WJ (x:VL):Prop:=BS .i64 x.Kind/\BS .i64 x.Source/\BS .i64 x.Object/\BS .i64 x.abh/\BS .i64 x.abj/\BS .i64 x.amD/\BS .i64 x.To/\BS .i64 x.aiN/\BS .i64 x.q_/\BS .i64 x.abF/\ZQ x.aho/\ZQ x.acZ/\Ab0 (BS .i64) x.Extra/\True
theorem Zn {n:Nat} {cs:List C} (h:AM Tryz.prog n 74 cs): ∃ x:VL,cs=Qz x/\WJ x:=by obtain⟨m,B2,h0,hE⟩:=Az (ts:=[3,3,3,3,3,3,3,3,3,3,4,4,72]) Tryz.underlying74 rfl h;obtain⟨p,h1,h2⟩:=(Ah (dI Tryz.underlying3) (Ah (dI Tryz.underlying3) (Ah (dI Tryz.underlying3) (Ah (dI Tryz.underlying3) (Ah (dI Tryz.underlying3) (Ah (dI Tryz.underlying3) (Ah (dI Tryz.underlying3) (Ah (dI Tryz.underlying3) (Ah (dI Tryz.underlying3) (Ah (dI Tryz.underlying3) (Ah (dB Tryz.underlying4) (Ah (dB Tryz.underlying4) (Ah (dA3 Tryz.underlying72 (dI Tryz.underlying3)) Dc))))))))))))) hE;exact⟨⟨p.1,p.2.1,p.2.2.1,p.2.2.2.1,p.2.2.2.2.1,p.2.2.2.2.2.1,p.2.2.2.2.2.2.1,p.2.2.2.2.2.2.2.1,p.2.2.2.2.2.2.2.2.1,p.2.2.2.2.2.2.2.2.2.1,p.2.2.2.2.2.2.2.2.2.2.1,p.2.2.2.2.2.2.2.2.2.2.2.1,p.2.2.2.2.2.2.2.2.2.2.2.2.1⟩,h0.trans h1,h2⟩
def nj (x:MP):Prop:=BS .i64 x.Id/\BS .i64 x.Kind/\BS .i64 x.Source/\BS .i64 x.Control/\BS .i64 x.X/\ZQ x.afC/\HH x.Tf/\SD 16 (Zm) x.aaU/\WJ x.Event/\True
theorem uJ {n:Nat} {cs:List C} (h:AM Tryz.prog n 76 cs): ∃ x:MP,cs=VM x/\nj x:=by obtain⟨m,B2,h0,hE⟩:=Az (ts:=[3,3,3,3,3,4,70,71,74]) Tryz.underlying76 rfl h;obtain⟨p,h1,h2⟩:=(Ah (dI Tryz.underlying3) (Ah (dI Tryz.underlying3) (Ah (dI Tryz.underlying3) (Ah (dI Tryz.underlying3) (Ah (dI Tryz.underlying3) (Ah (dB Tryz.underlying4) (Ah LT (Ah (dL Tryz.underlying71 uE lq) (Ah Zn Dc))))))))) hE;exact⟨⟨p.1,p.2.1,p.2.2.1,p.2.2.2.1,p.2.2.2.2.1,p.2.2.2.2.2.1,p.2.2.2.2.2.2.1,p.2.2.2.2.2.2.2.1,p.2.2.2.2.2.2.2.2.1⟩,h0.trans h1,h2⟩
def WK (x:Ht):Prop:=BS .i64 x.Source/\BS .i64 x.Control/\HH x.Tf/\WJ x.Event/\True
theorem gZ {n:Nat} {cs:List C} (h:AM Tryz.prog n 79 cs): ∃ x:Ht,cs=Ls x/\WK x:=by obtain⟨m,B2,h0,hE⟩:=Az (ts:=[3,3,70,74]) Tryz.underlying79 rfl h;obtain⟨p,h1,h2⟩:=(Ah (dI Tryz.underlying3) (Ah (dI Tryz.underlying3) (Ah LT (Ah Zn Dc)))) hE;exact⟨⟨p.1,p.2.1,p.2.2.1,p.2.2.2.1⟩,h0.trans h1,h2⟩
def nk (x:VN):Prop:=BS .i64 x.abC/\BS .i64 x.Control/\BS .i64 x.Source/\BS .i64 x.ahk/\SD 8 (BS .i64) x.b_/\SD 176 (bW) x.N_/\True
theorem uK {n:Nat} {cs:List C} (h:AM Tryz.prog n 81 cs): ∃ x:VN,cs=VO x/\nk x:=by obtain⟨m,B2,h0,hE⟩:=Az (ts:=[3,3,3,3,25,57]) Tryz.underlying81 rfl h;obtain⟨p,h1,h2⟩:=(Ah (dI Tryz.underlying3) (Ah (dI Tryz.underlying3) (Ah (dI Tryz.underlying3) (Ah (dI Tryz.underlying3) (Ah (dL Tryz.underlying25 NQ (dI Tryz.underlying3)) (Ah (dL Tryz.underlying57 WG bX) Dc)))))) hE;exact⟨⟨p.1,p.2.1,p.2.2.1,p.2.2.2.1,p.2.2.2.2.1,p.2.2.2.2.2.1⟩,h0.trans h1,h2⟩
def WL (x:AF):Prop:=SD 152 (Zk) x.e_/\SD 128 (Zl) x.b_/\SD 8 (BS .i64) x.Tl/\SD 8 (BS .i64) x.ac5/\SD 824 (nj) x.Stack/\SD 768 (WK) x.Td/\SD 80 (nk) x.aae/\BS .i64 x.aaL/\BS .i64 x.acq/\BS .i64 x.Step/\ZQ x.aiO/\BS .i64 x.Priority/\BS .i64 x.Passes/\BS .i64 x.aaE/\BS .i64 x.Ti/\BS .u64 x.amz/\SD 8 (BS .i64) x.Extra/\BS .i64 x.Over/\BS .i64 x.aeC/\True
theorem pX {n:Nat} {cs:List C} (h:AM Tryz.prog n 31 cs): ∃ x:AF,cs=QA x/\WL x:=by obtain⟨m,B2,h0,hE⟩:=Az (ts:=[23,24,25,25,26,27,28,3,3,3,4,3,3,3,3,29,25,3,3]) Tryz.underlying31 rfl h;obtain⟨p,h1,h2⟩:=(Ah (dL Tryz.underlying23 xU ll) (Ah (dL Tryz.underlying24 x6 lm) (Ah (dL Tryz.underlying25 NQ (dI Tryz.underlying3)) (Ah (dL Tryz.underlying25 NQ (dI Tryz.underlying3)) (Ah (dL Tryz.underlying26 xW uJ) (Ah (dL Tryz.underlying27 xX gZ) (Ah (dL Tryz.underlying28 xY uK) (Ah (dI Tryz.underlying3) (Ah (dI Tryz.underlying3) (Ah (dI Tryz.underlying3) (Ah (dB Tryz.underlying4) (Ah (dI Tryz.underlying3) (Ah (dI Tryz.underlying3) (Ah (dI Tryz.underlying3) (Ah (dI Tryz.underlying3) (Ah (dI Tryz.underlying29) (Ah (dL Tryz.underlying25 NQ (dI Tryz.underlying3)) (Ah (dI Tryz.underlying3) (Ah (dI Tryz.underlying3) Dc))))))))))))))))))) hE;exact⟨⟨p.1,p.2.1,p.2.2.1,p.2.2.2.1,p.2.2.2.2.1,p.2.2.2.2.2.1,p.2.2.2.2.2.2.1,p.2.2.2.2.2.2.2.1,p.2.2.2.2.2.2.2.2.1,p.2.2.2.2.2.2.2.2.2.1,p.2.2.2.2.2.2.2.2.2.2.1,p.2.2.2.2.2.2.2.2.2.2.2.1,p.2.2.2.2.2.2.2.2.2.2.2.2.1,p.2.2.2.2.2.2.2.2.2.2.2.2.2.1,p.2.2.2.2.2.2.2.2.2.2.2.2.2.2.1,p.2.2.2.2.2.2.2.2.2.2.2.2.2.2.2.1,p.2.2.2.2.2.2.2.2.2.2.2.2.2.2.2.2.1,p.2.2.2.2.2.2.2.2.2.2.2.2.2.2.2.2.2.1,p.2.2.2.2.2.2.2.2.2.2.2.2.2.2.2.2.2.2.1⟩,h0.trans h1,h2⟩
def uL (x:QB):Prop:=SD 176 (bY) x.acf/\WL x.S/\BS .i64 x.P/\True
theorem x8 {n:Nat} {cs:List C} (h:AM Tryz.prog n 33 cs): ∃ x:QB,cs=SV x/\uL x:=by obtain⟨m,B2,h0,hE⟩:=Az (ts:=[22,31,3]) Tryz.underlying33 rfl h;obtain⟨p,h1,h2⟩:=(Ah (dL Tryz.underlying22 xZ uI) (Ah pX (Ah (dI Tryz.underlying3) Dc))) hE;exact⟨⟨p.1,p.2.1,p.2.2.1⟩,h0.trans h1,h2⟩
end Go.PL
