/- Functions of the program, as partial functions in Lean, with proofs. -/
import Derived.Test.YtiddnfpjgojoaaaGreatDoorPlPbtoTi
import Derived.Test.YtiddnfpjgojoaaaGreatDoorPlEdB
namespace Go.PL
open Go Go.RowKit Go.Proofs
set_option maxRecDepth 100000
set_option linter.all false
set_option maxHeartbeats 4000000
theorem PC:Tryz.prog.bytesOf 3=8:=by kernel_rfl
theorem w7:Tryz.prog.bytesOf 9=16:=by kernel_rfl
theorem uu:Tryz.prog.bytesOf 48=152:=by kernel_rfl
theorem uv:Tryz.prog.bytesOf 61=128:=by kernel_rfl
theorem rX:Tryz.prog.bytesOf 113=640:=by kernel_rfl
theorem rY:Tryz.prog.bytesOf 119=560:=by kernel_rfl
theorem rZ:Tryz.prog.bytesOf 128=824:=by kernel_rfl
theorem sa:Tryz.prog.bytesOf 130=768:=by kernel_rfl
theorem sb:Tryz.prog.bytesOf 132=80:=by kernel_rfl
theorem X6:Tryz.prog.bytesOf 151=176:=by kernel_rfl
theorem sc:Tryz.prog.bytesOf 191=144:=by kernel_rfl
theorem sd:Tryz.prog.bytesOf 252=16:=by kernel_rfl
def w8 {α:Type} (ok:α→Prop) (a:A3 α):Prop:= ∀ y∈a.l,ok y
theorem zc {P:Program} {t e:TypeId} {n:Nat} {cs:List C} {α:Type} {enc:α→List C} {ok:α→Prop} (hu:P.underlying t=some (.array 3 e)) (hd: ∀ {n ds},Bh P n e ds→ ∃ x,ds=enc x∧ok x) (h:Bh P n t cs): ∃ a:A3 α,cs=xd enc a∧w8 ok a:=by
 obtain⟨l,h1,h2,h3⟩:=dA hu hd h
 subst h2
 match l,h1,h3 with
 | [x0,x1,x2],_,h3=>exact⟨⟨x0,x1,x2⟩,rfl,h3⟩
def yh {α:Type} (ok:α→Prop) (a:A5 α):Prop:= ∀ y∈a.l,ok y
theorem zg {P:Program} {t e:TypeId} {n:Nat} {cs:List C} {α:Type} {enc:α→List C} {ok:α→Prop} (hu:P.underlying t=some (.array 5 e)) (hd: ∀ {n ds},Bh P n e ds→ ∃ x,ds=enc x∧ok x) (h:Bh P n t cs): ∃ a:A5 α,cs=zf enc a∧yh ok a:=by
 obtain⟨l,h1,h2,h3⟩:=dA hu hd h
 subst h2
 match l,h1,h3 with
 | [x0,x1,x2,x3,x4],_,h3=>exact⟨⟨x0,x1,x2,x3,x4⟩,rfl,h3⟩
def w9 {α:Type} (ok:α→Prop) (a:A6 α):Prop:= ∀ y∈a.l,ok y
theorem zd {P:Program} {t e:TypeId} {n:Nat} {cs:List C} {α:Type} {enc:α→List C} {ok:α→Prop} (hu:P.underlying t=some (.array 6 e)) (hd: ∀ {n ds},Bh P n e ds→ ∃ x,ds=enc x∧ok x) (h:Bh P n t cs): ∃ a:A6 α,cs=xN enc a∧w9 ok a:=by
 obtain⟨l,h1,h2,h3⟩:=dA hu hd h
 subst h2
 match l,h1,h3 with
 | [x0,x1,x2,x3,x4,x5],_,h3=>exact⟨⟨x0,x1,x2,x3,x4,x5⟩,rfl,h3⟩
def dV (x:Bs):Prop:=Cm .i64 x.Generic∧Cm .i64 x.X∧yh (Cm .i64) x.Color∧True
theorem iB {n:Nat} {cs:List C} (h:Bh Tryz.prog n 64 cs): ∃ x:Bs,cs=Gq x∧dV x:=by
 obtain⟨m,dss,h0,hE⟩:=A7 (ts:=[3,3,62]) Tryz.underlying64 rfl h
 obtain⟨p,h1,h2⟩:=(Ap (dI Tryz.underlying3) (Ap (dI Tryz.underlying3) (Ap (zg Tryz.underlying62 (dI Tryz.underlying3)) Ej))) hE
 exact⟨⟨p.1,p.2.1,p.2.2.1⟩,h0.trans h1,h2⟩
def dW (x:BX):Prop:=Cm .i64 x.Super∧Cm .i64 x.Types∧Yq 16 (uG) x.Subs∧True
theorem se {n:Nat} {cs:List C} (h:Bh Tryz.prog n 67 cs): ∃ x:BX,cs=Dh x∧dW x:=by
 obtain⟨m,dss,h0,hE⟩:=A7 (ts:=[3,3,65]) Tryz.underlying67 rfl h
 obtain⟨p,h1,h2⟩:=(Ap (dI Tryz.underlying3) (Ap (dI Tryz.underlying3) (Ap (dL Tryz.underlying65 w7 (dS Tryz.underlying9)) Ej))) hE
 exact⟨⟨p.1,p.2.1,p.2.2.1⟩,h0.trans h1,h2⟩
def RB (x:Ax):Prop:=Cm .i64 x.Kind∧Cm .i64 x.N∧True
theorem SR {n:Nat} {cs:List C} (h:Bh Tryz.prog n 90 cs): ∃ x:Ax,cs=aD x∧RB x:=by
 obtain⟨m,dss,h0,hE⟩:=A7 (ts:=[3,3]) Tryz.underlying90 rfl h
 obtain⟨p,h1,h2⟩:=(Ap (dI Tryz.underlying3) (Ap (dI Tryz.underlying3) Ej)) hE
 exact⟨⟨p.1,p.2.1⟩,h0.trans h1,h2⟩
def Dz (x:Aq):Prop:=Cm .i64 x.Zone∧Cm .i64 x.Who∧Cm .i64 x.Self∧Cm .i64 x.Types∧Cm .i64 x.NotTypes∧Cm .i64 x.Colors∧Cm .i64 x.NotColors∧uG x.Sub∧Cm .i64 x.Keys∧Cm .i64 x.Tap∧RB x.Power∧RB x.Tough∧RB x.Value∧True
theorem D5 {n:Nat} {cs:List C} (h:Bh Tryz.prog n 92 cs): ∃ x:Aq,cs=BY x∧Dz x:=by
 obtain⟨m,dss,h0,hE⟩:=A7 (ts:=[3,3,3,3,3,3,3,9,3,3,90,90,90]) Tryz.underlying92 rfl h
 obtain⟨p,h1,h2⟩:=(Ap (dI Tryz.underlying3) (Ap (dI Tryz.underlying3) (Ap (dI Tryz.underlying3) (Ap (dI Tryz.underlying3) (Ap (dI Tryz.underlying3) (Ap (dI Tryz.underlying3) (Ap (dI Tryz.underlying3) (Ap (dS Tryz.underlying9) (Ap (dI Tryz.underlying3) (Ap (dI Tryz.underlying3) (Ap SR (Ap SR (Ap SR Ej))))))))))))) hE
 exact⟨⟨p.1,p.2.1,p.2.2.1,p.2.2.2.1,p.2.2.2.2.1,p.2.2.2.2.2.1,p.2.2.2.2.2.2.1,p.2.2.2.2.2.2.2.1,p.2.2.2.2.2.2.2.2.1,p.2.2.2.2.2.2.2.2.2.1,p.2.2.2.2.2.2.2.2.2.2.1,p.2.2.2.2.2.2.2.2.2.2.2.1,p.2.2.2.2.2.2.2.2.2.2.2.2.1⟩,h0.trans h1,h2⟩
def X7 (x:BH):Prop:=Cm .i64 x.Kind∧Cm .i64 x.N∧Cm .i64 x.M∧uG x.Sub∧Dz x.Filter∧True
theorem dX {n:Nat} {cs:List C} (h:Bh Tryz.prog n 151 cs): ∃ x:BH,cs=Bg x∧X7 x:=by
 obtain⟨m,dss,h0,hE⟩:=A7 (ts:=[3,3,3,9,92]) Tryz.underlying151 rfl h
 obtain⟨p,h1,h2⟩:=(Ap (dI Tryz.underlying3) (Ap (dI Tryz.underlying3) (Ap (dI Tryz.underlying3) (Ap (dS Tryz.underlying9) (Ap D5 Ej))))) hE
 exact⟨⟨p.1,p.2.1,p.2.2.1,p.2.2.2.1,p.2.2.2.2.1⟩,h0.trans h1,h2⟩
def iD (x:EF):Prop:=dV x.Mana∧cf x.Tap∧cf x.Sacrifice∧Cm .i64 x.Life∧True
theorem pw {n:Nat} {cs:List C} (h:Bh Tryz.prog n 105 cs): ∃ x:EF,cs=JS x∧iD x:=by
 obtain⟨m,dss,h0,hE⟩:=A7 (ts:=[64,4,4,3]) Tryz.underlying105 rfl h
 obtain⟨p,h1,h2⟩:=(Ap iB (Ap (dB Tryz.underlying4) (Ap (dB Tryz.underlying4) (Ap (dI Tryz.underlying3) Ej)))) hE
 exact⟨⟨p.1,p.2.1,p.2.2.1,p.2.2.2.1⟩,h0.trans h1,h2⟩
def PD (x:BZ):Prop:=Cm .i64 x.When∧Cm .i64 x.Who∧Dz x.Filter∧True
theorem iE {n:Nat} {cs:List C} (h:Bh Tryz.prog n 107 cs): ∃ x:BZ,cs=Gr x∧PD x:=by
 obtain⟨m,dss,h0,hE⟩:=A7 (ts:=[3,3,92]) Tryz.underlying107 rfl h
 obtain⟨p,h1,h2⟩:=(Ap (dI Tryz.underlying3) (Ap (dI Tryz.underlying3) (Ap D5 Ej))) hE
 exact⟨⟨p.1,p.2.1,p.2.2.1⟩,h0.trans h1,h2⟩
def dY (x:DB):Prop:=cf x.Player∧cf x.Object∧Dz x.Filter∧True
theorem sf {n:Nat} {cs:List C} (h:Bh Tryz.prog n 191 cs): ∃ x:DB,cs=B4 x∧dY x:=by
 obtain⟨m,dss,h0,hE⟩:=A7 (ts:=[4,4,92]) Tryz.underlying191 rfl h
 obtain⟨p,h1,h2⟩:=(Ap (dB Tryz.underlying4) (Ap (dB Tryz.underlying4) (Ap D5 Ej))) hE
 exact⟨⟨p.1,p.2.1,p.2.2.1⟩,h0.trans h1,h2⟩
def lS (x:KD):Prop:=Cm .i64 x.Kind∧Cm .i64 x.N∧Dz x.Filter∧True
theorem uw {n:Nat} {cs:List C} (h:Bh Tryz.prog n 115 cs): ∃ x:KD,cs=Qp x∧lS x:=by
 obtain⟨m,dss,h0,hE⟩:=A7 (ts:=[3,3,92]) Tryz.underlying115 rfl h
 obtain⟨p,h1,h2⟩:=(Ap (dI Tryz.underlying3) (Ap (dI Tryz.underlying3) (Ap D5 Ej))) hE
 exact⟨⟨p.1,p.2.1,p.2.2.1⟩,h0.trans h1,h2⟩
def SS (x:B9):Prop:=Cm .i64 x.Kind∧Cm .i64 x.N∧Cm .i64 x.Counter∧Dz x.Filter∧True
theorem lV {n:Nat} {cs:List C} (h:Bh Tryz.prog n 117 cs): ∃ x:B9,cs=HT x∧SS x:=by
 obtain⟨m,dss,h0,hE⟩:=A7 (ts:=[3,3,3,92]) Tryz.underlying117 rfl h
 obtain⟨p,h1,h2⟩:=(Ap (dI Tryz.underlying3) (Ap (dI Tryz.underlying3) (Ap (dI Tryz.underlying3) (Ap D5 Ej)))) hE
 exact⟨⟨p.1,p.2.1,p.2.2.1,p.2.2.2.1⟩,h0.trans h1,h2⟩
def ST (x:AU):Prop:=Cm .i64 x.Op∧lS x.Ref∧SS x.Amount∧Cm .i64 x.Counter∧Cm .i64 x.Zone∧uG x.Card∧Dz x.Filter∧w9 (Cm .i64) x.Pool∧Yq 176 (X7) x.Mods∧True
theorem lW {n:Nat} {cs:List C} (h:Bh Tryz.prog n 119 cs): ∃ x:AU,cs=Bq x∧ST x:=by
 obtain⟨m,dss,h0,hE⟩:=A7 (ts:=[3,115,117,3,3,9,92,46,93]) Tryz.underlying119 rfl h
 obtain⟨p,h1,h2⟩:=(Ap (dI Tryz.underlying3) (Ap uw (Ap lV (Ap (dI Tryz.underlying3) (Ap (dI Tryz.underlying3) (Ap (dS Tryz.underlying9) (Ap D5 (Ap (zd Tryz.underlying46 (dI Tryz.underlying3)) (Ap (dL Tryz.underlying93 X6 dX) Ej))))))))) hE
 exact⟨⟨p.1,p.2.1,p.2.2.1,p.2.2.2.1,p.2.2.2.2.1,p.2.2.2.2.2.1,p.2.2.2.2.2.2.1,p.2.2.2.2.2.2.2.1,p.2.2.2.2.2.2.2.2.1⟩,h0.trans h1,h2⟩
def PE (x:BA):Prop:=Cm .i64 x.On∧Cm .i64 x.Who∧Dz x.Filter∧Cm .i64 x.Do∧Cm .i64 x.N∧Cm .i64 x.Zone∧Cm .i64 x.Counter∧True
theorem iG {n:Nat} {cs:List C} (h:Bh Tryz.prog n 111 cs): ∃ x:BA,cs=Gt x∧PE x:=by
 obtain⟨m,dss,h0,hE⟩:=A7 (ts:=[3,3,92,3,3,3,3]) Tryz.underlying111 rfl h
 obtain⟨p,h1,h2⟩:=(Ap (dI Tryz.underlying3) (Ap (dI Tryz.underlying3) (Ap D5 (Ap (dI Tryz.underlying3) (Ap (dI Tryz.underlying3) (Ap (dI Tryz.underlying3) (Ap (dI Tryz.underlying3) Ej))))))) hE
 exact⟨⟨p.1,p.2.1,p.2.2.1,p.2.2.2.1,p.2.2.2.2.1,p.2.2.2.2.2.1,p.2.2.2.2.2.2.1⟩,h0.trans h1,h2⟩
def Ir (x:Au):Prop:=Cm .i64 x.Kind∧Dz x.Filter∧Yq 176 (X7) x.Mods∧iD x.Price∧cf x.Slow∧PD x.Trigger∧cf x.May∧Yq 144 (dY) x.Specs∧Yq 560 (ST) x.Effects∧PE x.Replace∧True
theorem Na {n:Nat} {cs:List C} (h:Bh Tryz.prog n 113 cs): ∃ x:Au,cs=AD x∧Ir x:=by
 obtain⟨m,dss,h0,hE⟩:=A7 (ts:=[3,92,93,105,4,107,4,108,109,111]) Tryz.underlying113 rfl h
 obtain⟨p,h1,h2⟩:=(Ap (dI Tryz.underlying3) (Ap D5 (Ap (dL Tryz.underlying93 X6 dX) (Ap pw (Ap (dB Tryz.underlying4) (Ap iE (Ap (dB Tryz.underlying4) (Ap (dL Tryz.underlying108 sc sf) (Ap (dL Tryz.underlying109 rY lW) (Ap iG Ej)))))))))) hE
 exact⟨⟨p.1,p.2.1,p.2.2.1,p.2.2.2.1,p.2.2.2.2.1,p.2.2.2.2.2.1,p.2.2.2.2.2.2.1,p.2.2.2.2.2.2.2.1,p.2.2.2.2.2.2.2.2.1,p.2.2.2.2.2.2.2.2.2.1⟩,h0.trans h1,h2⟩
def nC (x:A0):Prop:=uG x.Name∧cf x.Token∧dV x.Cost∧Cm .i64 x.Color∧dW x.Line∧Cm .i64 x.Power∧Cm .i64 x.Tough∧Cm .i64 x.Keys∧Yq 640 (Ir) x.Abilities∧True
theorem si {n:Nat} {cs:List C} (h:Bh Tryz.prog n 73 cs): ∃ x:A0,cs=B5 x∧nC x:=by
 obtain⟨m,dss,h0,hE⟩:=A7 (ts:=[9,4,64,3,67,3,3,3,68]) Tryz.underlying73 rfl h
 obtain⟨p,h1,h2⟩:=(Ap (dS Tryz.underlying9) (Ap (dB Tryz.underlying4) (Ap iB (Ap (dI Tryz.underlying3) (Ap se (Ap (dI Tryz.underlying3) (Ap (dI Tryz.underlying3) (Ap (dI Tryz.underlying3) (Ap (dL Tryz.underlying68 rX Na) Ej))))))))) hE
 exact⟨⟨p.1,p.2.1,p.2.2.1,p.2.2.2.1,p.2.2.2.2.1,p.2.2.2.2.2.1,p.2.2.2.2.2.2.1,p.2.2.2.2.2.2.2.1,p.2.2.2.2.2.2.2.2.1⟩,h0.trans h1,h2⟩
def SU (x:Bw):Prop:=Cm .i64 x.Life∧Cm .i64 x.Venom∧Cm .i64 x.Lands∧w9 (Cm .i64) x.Pool∧cf x.Failed∧cf x.Lost∧Yq 8 (Cm .i64) x.Library∧Yq 8 (Cm .i64) x.Hand∧Yq 8 (Cm .i64) x.Graveyard∧True
theorem lX {n:Nat} {cs:List C} (h:Bh Tryz.prog n 48 cs): ∃ x:Bw,cs=Aw x∧SU x:=by
 obtain⟨m,dss,h0,hE⟩:=A7 (ts:=[3,3,3,46,4,4,25,25,25]) Tryz.underlying48 rfl h
 obtain⟨p,h1,h2⟩:=(Ap (dI Tryz.underlying3) (Ap (dI Tryz.underlying3) (Ap (dI Tryz.underlying3) (Ap (zd Tryz.underlying46 (dI Tryz.underlying3)) (Ap (dB Tryz.underlying4) (Ap (dB Tryz.underlying4) (Ap (dL Tryz.underlying25 PC (dI Tryz.underlying3)) (Ap (dL Tryz.underlying25 PC (dI Tryz.underlying3)) (Ap (dL Tryz.underlying25 PC (dI Tryz.underlying3)) Ej))))))))) hE
 exact⟨⟨p.1,p.2.1,p.2.2.1,p.2.2.2.1,p.2.2.2.2.1,p.2.2.2.2.2.1,p.2.2.2.2.2.2.1,p.2.2.2.2.2.2.2.1,p.2.2.2.2.2.2.2.2.1⟩,h0.trans h1,h2⟩
def bj (x:AM):Prop:=Cm .i64 x.Id∧Cm .i64 x.Card∧Cm .i64 x.Owner∧Cm .i64 x.Control∧Cm .i64 x.Zone∧cf x.Token∧cf x.Tapped∧cf x.Sick∧cf x.Deadly∧Cm .i64 x.Damage∧w8 (Cm .i64) x.Counters∧Cm .i64 x.Stamp∧Cm .i64 x.Copy∧Cm .i64 x.Attack∧cf x.Blocked∧Cm .i64 x.Blocks∧Cm .i64 x.Shield∧True
theorem lY {n:Nat} {cs:List C} (h:Bh Tryz.prog n 61 cs): ∃ x:AM,cs=Ai x∧bj x:=by
 obtain⟨m,dss,h0,hE⟩:=A7 (ts:=[3,3,3,3,3,4,4,4,4,3,32,3,3,3,4,3,3]) Tryz.underlying61 rfl h
 obtain⟨p,h1,h2⟩:=(Ap (dI Tryz.underlying3) (Ap (dI Tryz.underlying3) (Ap (dI Tryz.underlying3) (Ap (dI Tryz.underlying3) (Ap (dI Tryz.underlying3) (Ap (dB Tryz.underlying4) (Ap (dB Tryz.underlying4) (Ap (dB Tryz.underlying4) (Ap (dB Tryz.underlying4) (Ap (dI Tryz.underlying3) (Ap (zc Tryz.underlying32 (dI Tryz.underlying3)) (Ap (dI Tryz.underlying3) (Ap (dI Tryz.underlying3) (Ap (dI Tryz.underlying3) (Ap (dB Tryz.underlying4) (Ap (dI Tryz.underlying3) (Ap (dI Tryz.underlying3) Ej))))))))))))))))) hE
 exact⟨⟨p.1,p.2.1,p.2.2.1,p.2.2.2.1,p.2.2.2.2.1,p.2.2.2.2.2.1,p.2.2.2.2.2.2.1,p.2.2.2.2.2.2.2.1,p.2.2.2.2.2.2.2.2.1,p.2.2.2.2.2.2.2.2.2.1,p.2.2.2.2.2.2.2.2.2.2.1,p.2.2.2.2.2.2.2.2.2.2.2.1,p.2.2.2.2.2.2.2.2.2.2.2.2.1,p.2.2.2.2.2.2.2.2.2.2.2.2.2.1,p.2.2.2.2.2.2.2.2.2.2.2.2.2.2.1,p.2.2.2.2.2.2.2.2.2.2.2.2.2.2.2.1,p.2.2.2.2.2.2.2.2.2.2.2.2.2.2.2.2.1⟩,h0.trans h1,h2⟩
def bm (x:KE):Prop:=Cm .i64 x.Object∧Cm .i64 x.Player∧True
theorem lZ {n:Nat} {cs:List C} (h:Bh Tryz.prog n 252 cs): ∃ x:KE,cs=Pq x∧bm x:=by
 obtain⟨m,dss,h0,hE⟩:=A7 (ts:=[3,3]) Tryz.underlying252 rfl h
 obtain⟨p,h1,h2⟩:=(Ap (dI Tryz.underlying3) (Ap (dI Tryz.underlying3) Ej)) hE
 exact⟨⟨p.1,p.2.1⟩,h0.trans h1,h2⟩
def X8 (x:Be):Prop:=Cm .i64 x.Kind∧Cm .i64 x.Source∧Cm .i64 x.Object∧Cm .i64 x.Player∧Cm .i64 x.Amount∧Cm .i64 x.From∧Cm .i64 x.To∧Cm .i64 x.Cause∧Cm .i64 x.Counter∧Cm .i64 x.Card∧cf x.Combat∧cf x.Tapped∧w8 (Cm .i64) x.Extra∧True
theorem SV {n:Nat} {cs:List C} (h:Bh Tryz.prog n 34 cs): ∃ x:Be,cs=FF x∧X8 x:=by
 obtain⟨m,dss,h0,hE⟩:=A7 (ts:=[3,3,3,3,3,3,3,3,3,3,4,4,32]) Tryz.underlying34 rfl h
 obtain⟨p,h1,h2⟩:=(Ap (dI Tryz.underlying3) (Ap (dI Tryz.underlying3) (Ap (dI Tryz.underlying3) (Ap (dI Tryz.underlying3) (Ap (dI Tryz.underlying3) (Ap (dI Tryz.underlying3) (Ap (dI Tryz.underlying3) (Ap (dI Tryz.underlying3) (Ap (dI Tryz.underlying3) (Ap (dI Tryz.underlying3) (Ap (dB Tryz.underlying4) (Ap (dB Tryz.underlying4) (Ap (zc Tryz.underlying32 (dI Tryz.underlying3)) Ej))))))))))))) hE
 exact⟨⟨p.1,p.2.1,p.2.2.1,p.2.2.2.1,p.2.2.2.2.1,p.2.2.2.2.2.1,p.2.2.2.2.2.2.1,p.2.2.2.2.2.2.2.1,p.2.2.2.2.2.2.2.2.1,p.2.2.2.2.2.2.2.2.2.1,p.2.2.2.2.2.2.2.2.2.2.1,p.2.2.2.2.2.2.2.2.2.2.2.1,p.2.2.2.2.2.2.2.2.2.2.2.2.1⟩,h0.trans h1,h2⟩
def dZ (x:HV):Prop:=Cm .i64 x.Id∧Cm .i64 x.Kind∧Cm .i64 x.Source∧Cm .i64 x.Control∧Cm .i64 x.X∧cf x.Copy∧Ir x.Ability∧Yq 16 (bm) x.Targets∧X8 x.Event∧True
theorem sj {n:Nat} {cs:List C} (h:Bh Tryz.prog n 128 cs): ∃ x:HV,cs=Bm x∧dZ x:=by
 obtain⟨m,dss,h0,hE⟩:=A7 (ts:=[3,3,3,3,3,4,113,126,34]) Tryz.underlying128 rfl h
 obtain⟨p,h1,h2⟩:=(Ap (dI Tryz.underlying3) (Ap (dI Tryz.underlying3) (Ap (dI Tryz.underlying3) (Ap (dI Tryz.underlying3) (Ap (dI Tryz.underlying3) (Ap (dB Tryz.underlying4) (Ap Na (Ap (dL Tryz.underlying126 sd lZ) (Ap SV Ej))))))))) hE
 exact⟨⟨p.1,p.2.1,p.2.2.1,p.2.2.2.1,p.2.2.2.2.1,p.2.2.2.2.2.1,p.2.2.2.2.2.2.1,p.2.2.2.2.2.2.2.1,p.2.2.2.2.2.2.2.2.1⟩,h0.trans h1,h2⟩
def PF (x:CU):Prop:=Cm .i64 x.Source∧Cm .i64 x.Control∧Ir x.Ability∧X8 x.Event∧True
theorem iH {n:Nat} {cs:List C} (h:Bh Tryz.prog n 130 cs): ∃ x:CU,cs=AR x∧PF x:=by
 obtain⟨m,dss,h0,hE⟩:=A7 (ts:=[3,3,113,34]) Tryz.underlying130 rfl h
 obtain⟨p,h1,h2⟩:=(Ap (dI Tryz.underlying3) (Ap (dI Tryz.underlying3) (Ap Na (Ap SV Ej)))) hE
 exact⟨⟨p.1,p.2.1,p.2.2.1,p.2.2.2.1⟩,h0.trans h1,h2⟩
def d5 (x:IP):Prop:=Cm .i64 x.Stamp∧Cm .i64 x.Control∧Cm .i64 x.Source∧Cm .i64 x.Until∧Yq 8 (Cm .i64) x.Objects∧Yq 176 (X7) x.Mods∧True
theorem sk {n:Nat} {cs:List C} (h:Bh Tryz.prog n 132 cs): ∃ x:IP,cs=Bn x∧d5 x:=by
 obtain⟨m,dss,h0,hE⟩:=A7 (ts:=[3,3,3,3,25,93]) Tryz.underlying132 rfl h
 obtain⟨p,h1,h2⟩:=(Ap (dI Tryz.underlying3) (Ap (dI Tryz.underlying3) (Ap (dI Tryz.underlying3) (Ap (dI Tryz.underlying3) (Ap (dL Tryz.underlying25 PC (dI Tryz.underlying3)) (Ap (dL Tryz.underlying93 X6 dX) Ej)))))) hE
 exact⟨⟨p.1,p.2.1,p.2.2.1,p.2.2.2.1,p.2.2.2.2.1,p.2.2.2.2.2.1⟩,h0.trans h1,h2⟩
def iI (x:Ao):Prop:=Yq 152 (SU) x.Players∧Yq 128 (bj) x.Objects∧Yq 8 (Cm .i64) x.Battlefield∧Yq 8 (Cm .i64) x.Exile∧Yq 824 (dZ) x.Stack∧Yq 768 (PF) x.Waiting∧Yq 80 (d5) x.Conts∧Cm .i64 x.Turn∧Cm .i64 x.Active∧Cm .i64 x.Step∧cf x.Begun∧Cm .i64 x.Priority∧Cm .i64 x.Passes∧Cm .i64 x.NextId∧Cm .i64 x.NextStamp∧Cm .u64 x.Seed∧Yq 8 (Cm .i64) x.Extra∧Cm .i64 x.Over∧Cm .i64 x.Winner∧True
theorem px {n:Nat} {cs:List C} (h:Bh Tryz.prog n 31 cs): ∃ x:Ao,cs=A4 x∧iI x:=by
 obtain⟨m,dss,h0,hE⟩:=A7 (ts:=[23,24,25,25,26,27,28,3,3,3,4,3,3,3,3,29,25,3,3]) Tryz.underlying31 rfl h
 obtain⟨p,h1,h2⟩:=(Ap (dL Tryz.underlying23 uu lX) (Ap (dL Tryz.underlying24 uv lY) (Ap (dL Tryz.underlying25 PC (dI Tryz.underlying3)) (Ap (dL Tryz.underlying25 PC (dI Tryz.underlying3)) (Ap (dL Tryz.underlying26 rZ sj) (Ap (dL Tryz.underlying27 sa iH) (Ap (dL Tryz.underlying28 sb sk) (Ap (dI Tryz.underlying3) (Ap (dI Tryz.underlying3) (Ap (dI Tryz.underlying3) (Ap (dB Tryz.underlying4) (Ap (dI Tryz.underlying3) (Ap (dI Tryz.underlying3) (Ap (dI Tryz.underlying3) (Ap (dI Tryz.underlying3) (Ap (dI Tryz.underlying29) (Ap (dL Tryz.underlying25 PC (dI Tryz.underlying3)) (Ap (dI Tryz.underlying3) (Ap (dI Tryz.underlying3) Ej))))))))))))))))))) hE
 exact⟨⟨p.1,p.2.1,p.2.2.1,p.2.2.2.1,p.2.2.2.2.1,p.2.2.2.2.2.1,p.2.2.2.2.2.2.1,p.2.2.2.2.2.2.2.1,p.2.2.2.2.2.2.2.2.1,p.2.2.2.2.2.2.2.2.2.1,p.2.2.2.2.2.2.2.2.2.2.1,p.2.2.2.2.2.2.2.2.2.2.2.1,p.2.2.2.2.2.2.2.2.2.2.2.2.1,p.2.2.2.2.2.2.2.2.2.2.2.2.2.1,p.2.2.2.2.2.2.2.2.2.2.2.2.2.2.1,p.2.2.2.2.2.2.2.2.2.2.2.2.2.2.2.1,p.2.2.2.2.2.2.2.2.2.2.2.2.2.2.2.2.1,p.2.2.2.2.2.2.2.2.2.2.2.2.2.2.2.2.2.1,p.2.2.2.2.2.2.2.2.2.2.2.2.2.2.2.2.2.2.1⟩,h0.trans h1,h2⟩
end Go.PL
