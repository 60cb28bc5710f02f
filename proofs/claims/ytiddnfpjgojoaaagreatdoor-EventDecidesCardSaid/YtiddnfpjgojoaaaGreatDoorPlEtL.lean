/- Functions that answer: proofs. -/
import Derived.Test.YtiddnfpjgojoaaaGreatDoorPlPbtoTi
import Derived.Test.YtiddnfpjgojoaaaGreatDoorPlEdD
namespace Go.PL
open Go
set_option maxRecDepth 100000
set_option linter.all false
set_option maxHeartbeats 2000000
theorem AL {s:List UInt8} (h:Fq s):s.length≤140737488355328:=h
theorem AX {α:Type} {b:Nat} {lk:α→Prop} {l:List α} (h:B3 (b+1) lk l):l.length≤140737488355328:=mV (by omega) h
def Fl (x:BX):Prop:=B3 16 Fq x.Subs∧True
theorem Ee {x:BX} (h:Fl x):B3 16 Fq x.Subs:=h.1
theorem l5 {x:BX} (h:dW x):Fl x:=⟨(CO fun _ h=>Wu h) (h.2.2.1),trivial⟩
def AZ (x:Aq):Prop:=Fq x.Sub∧True
theorem Av {x:Aq} (h:AZ x):Fq x.Sub:=h.1
theorem CJ {x:Aq} (h:Dz x):AZ x:=⟨Wu (h.2.2.2.2.2.2.2.1),trivial⟩
def CA (x:BH):Prop:=Fq x.Sub∧AZ x.Filter∧True
theorem CR {x:BH} (h:CA x):Fq x.Sub:=h.1
theorem Ba {x:BH} (h:CA x):AZ x.Filter:=h.2.1
theorem SW {x:BH} (h:X7 x):CA x:=⟨Wu (h.2.2.2.1),CJ (h.2.2.2.2.1),trivial⟩
def FR (x:BZ):Prop:=AZ x.Filter∧True
theorem DF {x:BZ} (h:FR x):AZ x.Filter:=h.1
theorem Za {x:BZ} (h:PD x):FR x:=⟨CJ (h.2.2.1),trivial⟩
def I9 (x:DB):Prop:=AZ x.Filter∧True
theorem Nb {x:DB} (h:I9 x):AZ x.Filter:=h.1
theorem ma {x:DB} (h:dY x):I9 x:=⟨CJ (h.2.2.1),trivial⟩
def SX (x:KD):Prop:=AZ x.Filter∧True
theorem Cq {x:KD} (h:SX x):AZ x.Filter:=h.1
theorem py {x:KD} (h:lS x):SX x:=⟨CJ (h.2.2.1),trivial⟩
def Hu (x:B9):Prop:=AZ x.Filter∧True
theorem SY {x:B9} (h:Hu x):AZ x.Filter:=h.1
theorem d6 {x:B9} (h:SS x):Hu x:=⟨CJ (h.2.2.2.1),trivial⟩
def BL (x:AU):Prop:=SX x.Ref∧Hu x.Amount∧Fq x.Card∧AZ x.Filter∧B3 176 CA x.Mods∧True
theorem Zb {x:AU} (h:BL x):SX x.Ref:=h.1
theorem Eg {x:AU} (h:BL x):Hu x.Amount:=h.2.1
theorem Fm {x:AU} (h:BL x):Fq x.Card:=h.2.2.1
theorem Ar {x:AU} (h:BL x):AZ x.Filter:=h.2.2.2.1
theorem BE {x:AU} (h:BL x):B3 176 CA x.Mods:=h.2.2.2.2.1
theorem d7 {x:AU} (h:ST x):BL x:=⟨py (h.2.1),d6 (h.2.2.1),Wu (h.2.2.2.2.2.1),CJ (h.2.2.2.2.2.2.1),(CO fun _ h=>SW h) (h.2.2.2.2.2.2.2.2.1),trivial⟩
def EI (x:BA):Prop:=AZ x.Filter∧True
theorem Fn {x:BA} (h:EI x):AZ x.Filter:=h.1
theorem Zc {x:BA} (h:PE x):EI x:=⟨CJ (h.2.2.1),trivial⟩
def Bk (x:Au):Prop:=AZ x.Filter∧B3 176 CA x.Mods∧FR x.Trigger∧B3 144 I9 x.Specs∧B3 560 BL x.Effects∧EI x.Replace∧True
theorem Fo {x:Au} (h:Bk x):AZ x.Filter:=h.1
theorem Dr {x:Au} (h:Bk x):B3 176 CA x.Mods:=h.2.1
theorem Dd {x:Au} (h:Bk x):FR x.Trigger:=h.2.2.1
theorem AN {x:Au} (h:Bk x):B3 144 I9 x.Specs:=h.2.2.2.1
theorem AB {x:Au} (h:Bk x):B3 560 BL x.Effects:=h.2.2.2.2.1
theorem BF {x:Au} (h:Bk x):EI x.Replace:=h.2.2.2.2.2.1
theorem Jz {x:Au} (h:Ir x):Bk x:=⟨CJ (h.2.1),(CO fun _ h=>SW h) (h.2.2.1),Za (h.2.2.2.2.2.1),(CO fun _ h=>ma h) (h.2.2.2.2.2.2.2.1),(CO fun _ h=>d7 h) (h.2.2.2.2.2.2.2.2.1),Zc (h.2.2.2.2.2.2.2.2.2.1),trivial⟩
def Cv (x:A0):Prop:=Fq x.Name∧Fl x.Line∧B3 640 Bk x.Abilities∧True
theorem Lj {x:A0} (h:Cv x):Fq x.Name:=h.1
theorem Lk {x:A0} (h:Cv x):Fl x.Line:=h.2.1
theorem CK {x:A0} (h:Cv x):B3 640 Bk x.Abilities:=h.2.2.1
theorem mc {x:A0} (h:nC x):Cv x:=⟨Wu (h.1),l5 (h.2.2.2.2.1),(CO fun _ h=>Jz h) (h.2.2.2.2.2.2.2.2.1),trivial⟩
def Cs (x:Bw):Prop:=B3 8 IH x.Library∧B3 8 IH x.Hand∧B3 8 IH x.Graveyard∧True
theorem Ja {x:Bw} (h:Cs x):B3 8 IH x.Library:=h.1
theorem Nc {x:Bw} (h:Cs x):B3 8 IH x.Hand:=h.2.1
theorem GU {x:Bw} (h:Cs x):B3 8 IH x.Graveyard:=h.2.2.1
theorem d8 {x:Bw} (h:SU x):Cs x:=⟨(CO fun _ _=>trivial) (h.2.2.2.2.2.2.1),(CO fun _ _=>trivial) (h.2.2.2.2.2.2.2.1),(CO fun _ _=>trivial) (h.2.2.2.2.2.2.2.2.1),trivial⟩
def Ll (x:HV):Prop:=Bk x.Ability∧B3 16 IH x.Targets∧True
theorem GQ {x:HV} (h:Ll x):Bk x.Ability:=h.1
theorem md {x:HV} (h:dZ x):Ll x:=⟨Jz (h.2.2.2.2.2.2.1),(CO fun _ _=>trivial) (h.2.2.2.2.2.2.2.1),trivial⟩
def FS (x:CU):Prop:=Bk x.Ability∧True
theorem PG {x:CU} (h:FS x):Bk x.Ability:=h.1
theorem Zd {x:CU} (h:PF x):FS x:=⟨Jz (h.2.2.1),trivial⟩
def Jb (x:IP):Prop:=B3 8 IH x.Objects∧B3 176 CA x.Mods∧True
theorem LL {x:IP} (h:Jb x):B3 8 IH x.Objects:=h.1
theorem RC {x:IP} (h:Jb x):B3 176 CA x.Mods:=h.2.1
theorem me {x:IP} (h:d5 x):Jb x:=⟨(CO fun _ _=>trivial) (h.2.2.2.2.1),(CO fun _ h=>SW h) (h.2.2.2.2.2.1),trivial⟩
def Bj (x:Ao):Prop:=B3 152 Cs x.Players∧B3 128 IH x.Objects∧B3 8 IH x.Battlefield∧B3 8 IH x.Exile∧B3 824 Ll x.Stack∧B3 768 FS x.Waiting∧B3 80 Jb x.Conts∧B3 8 IH x.Extra∧True
theorem Bt {x:Ao} (h:Bj x):B3 152 Cs x.Players:=h.1
theorem Eh {x:Ao} (h:Bj x):B3 128 IH x.Objects:=h.2.1
theorem GD {x:Ao} (h:Bj x):B3 8 IH x.Battlefield:=h.2.2.1
theorem Nd {x:Ao} (h:Bj x):B3 8 IH x.Exile:=h.2.2.2.1
theorem Is {x:Ao} (h:Bj x):B3 824 Ll x.Stack:=h.2.2.2.2.1
theorem Ki {x:Ao} (h:Bj x):B3 768 FS x.Waiting:=h.2.2.2.2.2.1
theorem Fp {x:Ao} (h:Bj x):B3 80 Jb x.Conts:=h.2.2.2.2.2.2.1
theorem X9 {x:Ao} (h:Bj x):B3 8 IH x.Extra:=h.2.2.2.2.2.2.2.1
theorem iJ {x:Ao} (h:iI x):Bj x:=⟨(CO fun _ h=>d8 h) (h.1),(CO fun _ _=>trivial) (h.2.1),(CO fun _ _=>trivial) (h.2.2.1),(CO fun _ _=>trivial) (h.2.2.2.1),(CO fun _ h=>md h) (h.2.2.2.2.1),(CO fun _ h=>Zd h) (h.2.2.2.2.2.1),(CO fun _ h=>me h) (h.2.2.2.2.2.2.1),(CO fun _ _=>trivial) (h.2.2.2.2.2.2.2.2.2.2.2.2.2.2.2.2.1),trivial⟩
def A8 (x:Ah):Prop:=Fq x.Name∧Fl x.Line∧B3 640 Bk x.Abilities∧True
theorem Ya {x:Ah} (h:A8 x):Fl x.Line:=h.2.1
theorem Oa {x:Ah} (h:A8 x):B3 640 Bk x.Abilities:=h.2.2.1
def CZ (x:AS):Prop:=B3 8 IH x.Objects∧AZ x.Filter∧B3 176 CA x.Mods∧True
theorem SZ {x:AS} (h:CZ x):B3 8 IH x.Objects:=h.1
theorem Vf {x:AS} (h:CZ x):AZ x.Filter:=h.2.1
theorem F7 {x:AS} (h:CZ x):B3 176 CA x.Mods:=h.2.2.1
def sn (x:AA):Prop:=Bj x.S∧B3 176 A8 x.All∧B3 224 CZ x.L∧B3 1 IH x.Begun∧B3 24 (B3 8 IH) x.Sets∧B3 1 IH x.Blank∧True
end Go.PL
