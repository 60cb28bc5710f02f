/- Functions of the program, as partial functions in Lean, with proofs. -/
import Derived.Test.YtelbpfkjhndccaaGreatDoorPlSbB
import Derived.Test.YtelbpfkjhndccaaGreatDoorPlSbF2
import Derived.Test.YtelbpfkjhndccaaGreatDoorPlSbF4
import Derived.Test.YtelbpfkjhndccaaGreatDoorPlSbF7
import Derived.Test.YtelbpfkjhndccaaGreatDoorPlSbF8
namespace Go.PL
open Go Go.RowKit Go.Proofs
set_option maxRecDepth 100000
set_option linter.all false
set_option maxHeartbeats 4000000
attribute [local irreducible] Ai B4 BL
def MI (l7_38:List (List UInt8)):Option ((List UInt8)):=
 (if((l7_38.length:Int)==0)=true then
  some N8
 else
  (Ur l7_38 Xk).bind fun r41=>
  some r41)
def MJ (a0:Af) (l7_35:List (List UInt8)):Option ((List UInt8)):=
 (H5 Wq a0.Value).bind fun r37=>
 (if(r37==([]:List UInt8))=true then
  MI l7_35
 else
  (app 16 l7_35 ([r37]:List (List UInt8))).bind fun l43=>
  MI l43)
def MK (a0:Af) (l7_32:List (List UInt8)):Option ((List UInt8)):=
 (H5 Wp a0.Tough).bind fun r34=>
 (if(r34==([]:List UInt8))=true then
  MJ a0 l7_32
 else
  (app 16 l7_32 ([r34]:List (List UInt8))).bind fun l45=>
  MJ a0 l45)
def ML (a0:Af) (l7_29:List (List UInt8)):Option ((List UInt8)):=
 (H5 Wo a0.Power).bind fun r31=>
 (if(r31==([]:List UInt8))=true then
  MK a0 l7_29
 else
  (app 16 l7_29 ([r31]:List (List UInt8))).bind fun l47=>
  MK a0 l47)
def Qg (a0:Af) (r6:(List (List UInt8))) (l7_26:List (List UInt8)):Option ((List UInt8)):=
 (idx r6 a0.Tap).bind fun e28=>
 (if(e28==([]:List UInt8))=true then
  ML a0 l7_26
 else
  (app 16 l7_26 ([e28]:List (List UInt8))).bind fun l49=>
  ML a0 l49)
def Qh (vt12_52:Int) (l7_57:List (List UInt8)):Option ((Int×(List (List UInt8)))⊕((List (List UInt8)))):=
 some (.inl ((Ab (vt12_52+1)),l7_57))
def MM (a0:Af) (vt12_52:Int) (l7_53:List (List UInt8)):Option ((Int×(List (List UInt8)))⊕((List (List UInt8)))):=
 (if(decide (vt12_52<17))=true then
  (MD a0.Keys vt12_52).bind fun r59=>
  (if r59=true then
   (Uu vt12_52).bind fun r61=>
   (cat Cq r61).bind fun s62=>
   (app 16 l7_53 ([s62]:List (List UInt8))).bind fun l63=>
   Qh vt12_52 l63
  else
   Qh vt12_52 l7_53)
 else
  some (.inr l7_53))
def Ko (a0:Af) (r6:(List (List UInt8))) (l7_24:List (List UInt8)):Option ((List UInt8)):=
 (iter (fun(v:Int×(List (List UInt8)))=>MM a0 v.1 v.2) FU ((0:Int),l7_24)).bind (fun o0=>Qg a0 r6 o0)
def Qi (a0:Af) (r6:(List (List UInt8))) (l7_22:List (List UInt8)):Option ((List UInt8)):=
 (if(a0.Sub != ([]:List UInt8))=true then
  (cat Jr a0.Sub).bind fun s65=>
  (app 16 l7_22 ([s65]:List (List UInt8))).bind fun l66=>
  Ko a0 r6 l66
 else
  Ko a0 r6 l7_22)
def Qj (vt11_69:Int) (l7_74:List (List UInt8)):Option ((Int×(List (List UInt8)))⊕((List (List UInt8)))):=
 some (.inl ((Ab (vt11_69+1)),l7_74))
def MN (a0:Af) (vt11_69:Int) (l7_70:List (List UInt8)):Option ((Int×(List (List UInt8)))⊕((List (List UInt8)))):=
 (if(decide (vt11_69<5))=true then
  (MD a0.NotColors vt11_69).bind fun r76=>
  (if r76=true then
   (P5 vt11_69).bind fun r78=>
   (cat CU r78).bind fun s79=>
   (app 16 l7_70 ([s79]:List (List UInt8))).bind fun l80=>
   Qj vt11_69 l80
  else
   Qj vt11_69 l7_70)
 else
  some (.inr l7_70))
def Qk (a0:Af) (r6:(List (List UInt8))) (l7_20:List (List UInt8)):Option ((List UInt8)):=
 (iter (fun(v:Int×(List (List UInt8)))=>MN a0 v.1 v.2) FU ((0:Int),l7_20)).bind (fun o0=>Qi a0 r6 o0)
def Ql (vt10_83:Int) (l7_88:List (List UInt8)):Option ((Int×(List (List UInt8)))⊕((List (List UInt8)))):=
 some (.inl ((Ab (vt10_83+1)),l7_88))
def MO (a0:Af) (vt10_83:Int) (l7_84:List (List UInt8)):Option ((Int×(List (List UInt8)))⊕((List (List UInt8)))):=
 (if(decide (vt10_83<5))=true then
  (MD a0.Colors vt10_83).bind fun r90=>
  (if r90=true then
   (P5 vt10_83).bind fun r92=>
   (app 16 l7_84 ([r92]:List (List UInt8))).bind fun l93=>
   Ql vt10_83 l93
  else
   Ql vt10_83 l7_84)
 else
  some (.inr l7_84))
def Qm (a0:Af) (r6:(List (List UInt8))) (l7_18:List (List UInt8)):Option ((List UInt8)):=
 (iter (fun(v:Int×(List (List UInt8)))=>MO a0 v.1 v.2) FU ((0:Int),l7_18)).bind (fun o0=>Qk a0 r6 o0)
def OI (vt9_96:Int) (l7_101:List (List UInt8)):Option ((Int×(List (List UInt8)))⊕((List (List UInt8)))):=
 some (.inl ((Ab (vt9_96+1)),l7_101))
def MP (a0:Af) (vt9_96:Int) (l7_97:List (List UInt8)):Option ((Int×(List (List UInt8)))⊕((List (List UInt8)))):=
 (if(decide (vt9_96<6))=true then
  (MD a0.NotTypes vt9_96).bind fun r103=>
  (if r103=true then
   (MH vt9_96).bind fun r105=>
   (cat CU r105).bind fun s106=>
   (app 16 l7_97 ([s106]:List (List UInt8))).bind fun l107=>
   OI vt9_96 l107
  else
   OI vt9_96 l7_97)
 else
  some (.inr l7_97))
def Qn (a0:Af) (r6:(List (List UInt8))) (l7_16:List (List UInt8)):Option ((List UInt8)):=
 (iter (fun(v:Int×(List (List UInt8)))=>MP a0 v.1 v.2) FU ((0:Int),l7_16)).bind (fun o0=>Qm a0 r6 o0)
def OJ (vt8_110:Int) (l7_115:List (List UInt8)):Option ((Int×(List (List UInt8)))⊕((List (List UInt8)))):=
 some (.inl ((Ab (vt8_110+1)),l7_115))
def LN (a0:Af) (vt8_110:Int) (l7_111:List (List UInt8)):Option ((Int×(List (List UInt8)))⊕((List (List UInt8)))):=
 (if(decide (vt8_110<6))=true then
  (MD a0.Types vt8_110).bind fun r117=>
  (if r117=true then
   (MH vt8_110).bind fun r119=>
   (app 16 l7_111 ([r119]:List (List UInt8))).bind fun l120=>
   OJ vt8_110 l120
  else
   OJ vt8_110 l7_111)
 else
  some (.inr l7_111))
def MQ (a0:Af) (r6:(List (List UInt8))) (l7_14:List (List UInt8)):Option ((List UInt8)):=
 (iter (fun(v:Int×(List (List UInt8)))=>LN a0 v.1 v.2) FU ((0:Int),l7_14)).bind (fun o0=>Qn a0 r6 o0)
def MR (a0:Af) (r5:(List (List UInt8))) (r6:(List (List UInt8))) (l7_11:List (List UInt8)):Option ((List UInt8)):=
 (idx r5 a0.Self).bind fun e13=>
 (if(e13==([]:List UInt8))=true then
  MQ a0 r6 l7_11
 else
  (app 16 l7_11 ([e13]:List (List UInt8))).bind fun l122=>
  MQ a0 r6 l122)
def NQ (a0:Af) (r4:(List (List UInt8))) (r5:(List (List UInt8))) (r6:(List (List UInt8))) (l7_8:List (List UInt8)):Option ((List UInt8)):=
 (idx r4 a0.Who).bind fun e10=>
 (if(e10==([]:List UInt8))=true then
  MR a0 r5 r6 l7_8
 else
  (app 16 l7_8 ([e10]:List (List UInt8))).bind fun l124=>
  MR a0 r5 r6 l124)
def UB (a0:Af):Option ((List UInt8)):=
 (K3 a0).bind fun r1=>
 (if(!r1)=true then
  some ([]:List UInt8)
 else
  (Vt).bind fun r3=>
  (Xw).bind fun r4=>
  (Vu).bind fun r5=>
  (Xx).bind fun r6=>
  (idx r3 a0.Zone).bind fun e7=>
  (if(e7==([]:List UInt8))=true then
   NQ a0 r4 r5 r6 ([]:List (List UInt8))
  else
   (app 16 ([]:List (List UInt8)) ([e7]:List (List UInt8))).bind fun l126=>
   NQ a0 r4 r5 r6 l126))
def L7 (a0:C0):Option (Bool):=
 (if(!a0.Object)=true then
  (some (if a0.Player=true then a0.Filter==(⟨0,0,0,0,0,0,0,[],0,0,(⟨0,0⟩:Ae),(⟨0,0⟩:Ae),(⟨0,0⟩:Ae)⟩:Af)else false)).bind fun b2=>
  some b2
 else
  (K3 a0.Filter).bind fun r3=>
  (some (if(a0.Filter.Zone==0)=true then true else a0.Filter.Zone==3)).bind fun b4=>
  (some (if b4=true then true else a0.Filter.Zone==5)).bind fun b5=>
  (some (if r3=true then b5 else false)).bind fun b6=>
  some b6)
def Rd (a0:IM):Option (Bool):=
 (if(a0.Kind==4)=true then
  (K3 a0.Filter).bind fun r7=>
  some r7
 else
  some (a0.Filter==(⟨0,0,0,0,0,0,0,[],0,0,(⟨0,0⟩:Ae),(⟨0,0⟩:Ae),(⟨0,0⟩:Ae)⟩:Af)))
def Oh (a0:IM) (specs_t1_1:Int):Option (Bool):=
 (some (if(decide (a0.Kind<1))=true then true else decide (8<a0.Kind))).bind fun b3=>
 (if b3=true then
  some false
 else
  (P7 a0.Kind).bind fun r8=>
  (if r8=true then
   (some (if(decide (a0.N<1))=true then true else decide (specs_t1_1<a0.N))).bind fun b10=>
   (if b10=true then
    some false
   else
    Rd a0)
  else
   (if(a0.N != 0)=true then
    some false
   else
    Rd a0)))
def Rf (a0:IM) (a1:Int):Option (Bool):=
 (if(decide (4<a1))=true then
  Oh a0 (4:Int)
 else
  Oh a0 a1)
def Kw (a0:Bv) (b3_1:Bv):Option (Bool):=
 (some (if(decide (0≤a0.Kind))=true then decide (a0.Kind≤7)else false)).bind fun b3=>
 (some (if b3=true then b3_1==(⟨a0.Kind,0,0,(⟨0,0,0,0,0,0,0,[],0,0,(⟨0,0⟩:Ae),(⟨0,0⟩:Ae),(⟨0,0⟩:Ae)⟩:Af)⟩:Bv)else false)).bind fun b4=>
 some b4
def Rh (a0:Bv):Option (Bool):=
 (if(a0.Kind==0)=true then
  (some (if(decide (a0.N<0))=true then true else decide (1000000<a0.N))).bind fun b6=>
  (if b6=true then
   some false
  else
   Kw a0 ({a0 with N:=(0:Int)}))
 else
  (if(a0.Kind==2)=true then
   (some (if(decide (a0.N<1))=true then true else decide (99<a0.N))).bind fun b9=>
   (gd (b9==false) (K3 a0.Filter)).bind fun r10=>
   (some (if b9=true then true else !r10)).bind fun b11=>
   (if b11=true then
    some false
   else
    Kw a0 ({{a0 with N:=(0:Int)}with Filter:=(⟨0,0,0,0,0,0,0,[],0,0,(⟨0,0⟩:Ae),(⟨0,0⟩:Ae),(⟨0,0⟩:Ae)⟩:Af)}))
  else
   (if(a0.Kind==4)=true then
    (P8 a0.Counter).bind fun r14=>
    (if(r14==([]:List UInt8))=true then
     some false
    else
     Kw a0 ({a0 with Counter:=(0:Int)}))
   else
    Kw a0 a0)))
end Go.PL
