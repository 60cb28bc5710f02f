/- Functions that answer: proofs. -/
import Derived.Test.YtiddnfpjgojoaaaGreatDoorPlZtoTf
import Derived.Test.YtiddnfpjgojoaaaGreatDoorPlEdD
namespace Go.PL
open Go
set_option maxRecDepth 100000
set_option linter.all false
set_option maxHeartbeats 2000000
theorem AN {s:List UInt8} (h:Fx s):s.length≤140737488355328:=h
theorem AY {α:Type} {b:Nat} {lk:α→Prop} {l:List α} (h:B5 (b+1) lk l):l.length≤140737488355328:=ni (by omega) h
def Fs (x:BZ):Prop:=B5 16 Fx x.Subs∧True
theorem Eh {x:BZ} (h:Fs x):B5 16 Fx x.Subs:=h.1
theorem mq {x:BZ} (h:ek x):Fs x:=⟨(CQ fun _ h=>WK h) (h.2.2.1),trivial⟩
def AZ (x:Ar):Prop:=Fx x.Sub∧True
theorem Ax {x:Ar} (h:AZ x):Fx x.Sub:=h.1
theorem CM {x:Ar} (h:DD x):AZ x:=⟨WK (h.2.2.2.2.2.2.2.1),trivial⟩
def CC (x:BI):Prop:=Fx x.Sub∧AZ x.Filter∧True
theorem CU {x:BI} (h:CC x):Fx x.Sub:=h.1
theorem Ba {x:BI} (h:CC x):AZ x.Filter:=h.2.1
theorem S3 {x:BI} (h:Yn x):CC x:=⟨WK (h.2.2.2.1),CM (h.2.2.2.2.1),trivial⟩
def FX (x:B1):Prop:=AZ x.Filter∧True
theorem DH {x:B1} (h:FX x):AZ x.Filter:=h.1
theorem Zp {x:B1} (h:PJ x):FX x:=⟨CM (h.2.2.1),trivial⟩
def Jh (x:DF):Prop:=AZ x.Filter∧True
theorem Nm {x:DF} (h:Jh x):AZ x.Filter:=h.1
theorem mr {x:DF} (h:ep x):Jh x:=⟨CM (h.2.2.1),trivial⟩
def S4 (x:KQ):Prop:=AZ x.Filter∧True
theorem Ct {x:KQ} (h:S4 x):AZ x.Filter:=h.1
theorem pN {x:KQ} (h:mi x):S4 x:=⟨CM (h.2.2.1),trivial⟩
def Hy (x:Cd):Prop:=AZ x.Filter∧True
theorem S5 {x:Cd} (h:Hy x):AZ x.Filter:=h.1
theorem ey {x:Cd} (h:SZ x):Hy x:=⟨CM (h.2.2.2.1),trivial⟩
def BN (x:AV):Prop:=S4 x.Ref∧Hy x.Amount∧Fx x.Card∧AZ x.Filter∧B5 176 CC x.Mods∧True
theorem Zq {x:AV} (h:BN x):S4 x.Ref:=h.1
theorem Ej {x:AV} (h:BN x):Hy x.Amount:=h.2.1
theorem Ft {x:AV} (h:BN x):Fx x.Card:=h.2.2.1
theorem As {x:AV} (h:BN x):AZ x.Filter:=h.2.2.2.1
theorem BF {x:AV} (h:BN x):B5 176 CC x.Mods:=h.2.2.2.2.1
theorem ez {x:AV} (h:S0 x):BN x:=⟨pN (h.2.1),ey (h.2.2.1),WK (h.2.2.2.2.2.1),CM (h.2.2.2.2.2.2.1),(CQ fun _ h=>S3 h) (h.2.2.2.2.2.2.2.2.1),trivial⟩
def EJ (x:BB):Prop:=AZ x.Filter∧True
theorem Fu {x:BB} (h:EJ x):AZ x.Filter:=h.1
theorem Zr {x:BB} (h:PM x):EJ x:=⟨CM (h.2.2.1),trivial⟩
def Bl (x:Aw):Prop:=AZ x.Filter∧B5 176 CC x.Mods∧FX x.Trigger∧B5 144 Jh x.Specs∧B5 560 BN x.Effects∧EJ x.Replace∧True
theorem Fv {x:Aw} (h:Bl x):AZ x.Filter:=h.1
theorem Dv {x:Aw} (h:Bl x):B5 176 CC x.Mods:=h.2.1
theorem Dh {x:Aw} (h:Bl x):FX x.Trigger:=h.2.2.1
theorem AP {x:Aw} (h:Bl x):B5 144 Jh x.Specs:=h.2.2.2.1
theorem AE {x:Aw} (h:Bl x):B5 560 BN x.Effects:=h.2.2.2.2.1
theorem BG {x:Aw} (h:Bl x):EJ x.Replace:=h.2.2.2.2.2.1
theorem JJ {x:Aw} (h:Iz x):Bl x:=⟨CM (h.2.1),(CQ fun _ h=>S3 h) (h.2.2.1),Zp (h.2.2.2.2.2.1),(CQ fun _ h=>mr h) (h.2.2.2.2.2.2.2.1),(CQ fun _ h=>ez h) (h.2.2.2.2.2.2.2.2.1),Zr (h.2.2.2.2.2.2.2.2.2.1),trivial⟩
def Cy (x:A1):Prop:=Fx x.Name∧Fs x.Line∧B5 640 Bl x.Abilities∧True
theorem Lx {x:A1} (h:Cy x):Fx x.Name:=h.1
theorem Ly {x:A1} (h:Cy x):Fs x.Line:=h.2.1
theorem CN {x:A1} (h:Cy x):B5 640 Bl x.Abilities:=h.2.2.1
theorem mt {x:A1} (h:nP x):Cy x:=⟨WK (h.1),mq (h.2.2.2.2.1),(CQ fun _ h=>JJ h) (h.2.2.2.2.2.2.2.2.1),trivial⟩
def Cv (x:Bw):Prop:=B5 8 IR x.Library∧B5 8 IR x.Hand∧B5 8 IR x.Graveyard∧True
theorem Ji {x:Bw} (h:Cv x):B5 8 IR x.Library:=h.1
theorem Nn {x:Bw} (h:Cv x):B5 8 IR x.Hand:=h.2.1
theorem G0 {x:Bw} (h:Cv x):B5 8 IR x.Graveyard:=h.2.2.1
theorem eA {x:Bw} (h:S1 x):Cv x:=⟨(CQ fun _ _=>trivial) (h.2.2.2.2.2.2.1),(CQ fun _ _=>trivial) (h.2.2.2.2.2.2.2.1),(CQ fun _ _=>trivial) (h.2.2.2.2.2.2.2.2.1),trivial⟩
def Lz (x:H6):Prop:=Bl x.Ability∧B5 16 IR x.Targets∧True
theorem GW {x:H6} (h:Lz x):Bl x.Ability:=h.1
theorem mu {x:H6} (h:eu x):Lz x:=⟨JJ (h.2.2.2.2.2.2.1),(CQ fun _ _=>trivial) (h.2.2.2.2.2.2.2.1),trivial⟩
def FY (x:C0):Prop:=Bl x.Ability∧True
theorem PO {x:C0} (h:FY x):Bl x.Ability:=h.1
theorem Zs {x:C0} (h:PN x):FY x:=⟨JJ (h.2.2.1),trivial⟩
def Jj (x:IX):Prop:=B5 8 IR x.Objects∧B5 176 CC x.Mods∧True
theorem LY {x:IX} (h:Jj x):B5 8 IR x.Objects:=h.1
theorem RJ {x:IX} (h:Jj x):B5 176 CC x.Mods:=h.2.1
theorem mv {x:IX} (h:ew x):Jj x:=⟨(CQ fun _ _=>trivial) (h.2.2.2.2.1),(CQ fun _ h=>S3 h) (h.2.2.2.2.2.1),trivial⟩
def Bk (x:Ao):Prop:=B5 152 Cv x.Players∧B5 128 IR x.Objects∧B5 8 IR x.Battlefield∧B5 8 IR x.Exile∧B5 824 Lz x.Stack∧B5 768 FY x.Waiting∧B5 80 Jj x.Conts∧B5 8 IR x.Extra∧True
theorem Bu {x:Ao} (h:Bk x):B5 152 Cv x.Players:=h.1
theorem Ek {x:Ao} (h:Bk x):B5 128 IR x.Objects:=h.2.1
theorem GJ {x:Ao} (h:Bk x):B5 8 IR x.Battlefield:=h.2.2.1
theorem No {x:Ao} (h:Bk x):B5 8 IR x.Exile:=h.2.2.2.1
theorem IA {x:Ao} (h:Bk x):B5 824 Lz x.Stack:=h.2.2.2.2.1
theorem Ku {x:Ao} (h:Bk x):B5 768 FY x.Waiting:=h.2.2.2.2.2.1
theorem Fw {x:Ao} (h:Bk x):B5 80 Jj x.Conts:=h.2.2.2.2.2.2.1
theorem Yp {x:Ao} (h:Bk x):B5 8 IR x.Extra:=h.2.2.2.2.2.2.2.1
theorem i7 {x:Ao} (h:i6 x):Bk x:=⟨(CQ fun _ h=>eA h) (h.1),(CQ fun _ _=>trivial) (h.2.1),(CQ fun _ _=>trivial) (h.2.2.1),(CQ fun _ _=>trivial) (h.2.2.2.1),(CQ fun _ h=>mu h) (h.2.2.2.2.1),(CQ fun _ h=>Zs h) (h.2.2.2.2.2.1),(CQ fun _ h=>mv h) (h.2.2.2.2.2.2.1),(CQ fun _ _=>trivial) (h.2.2.2.2.2.2.2.2.2.2.2.2.2.2.2.2.1),trivial⟩
def A8 (x:Ah):Prop:=Fx x.Name∧Fs x.Line∧B5 640 Bl x.Abilities∧True
theorem Yq {x:Ah} (h:A8 x):Fs x.Line:=h.2.1
theorem Ol {x:Ah} (h:A8 x):B5 640 Bl x.Abilities:=h.2.2.1
def C4 (x:AU):Prop:=B5 8 IR x.Objects∧AZ x.Filter∧B5 176 CC x.Mods∧True
theorem S6 {x:AU} (h:C4 x):B5 8 IR x.Objects:=h.1
theorem Vm {x:AU} (h:C4 x):AZ x.Filter:=h.2.1
theorem Gc {x:AU} (h:C4 x):B5 176 CC x.Mods:=h.2.2.1
def sG (x:AD):Prop:=Bk x.S∧B5 176 A8 x.All∧B5 224 C4 x.L∧B5 1 IR x.Begun∧B5 24 (B5 8 IR) x.Sets∧B5 1 IR x.Blank∧True
end Go.PL
