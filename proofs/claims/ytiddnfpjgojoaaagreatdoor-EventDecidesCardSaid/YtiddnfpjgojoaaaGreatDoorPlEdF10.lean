/- Functions of the program, as partial functions in Lean, with proofs. -/
import Derived.Test.YtiddnfpjgojoaaaGreatDoorPlEdB
import Derived.Test.YtiddnfpjgojoaaaGreatDoorPlEdF0
import Derived.Test.YtiddnfpjgojoaaaGreatDoorPlEdF1
import Derived.Test.YtiddnfpjgojoaaaGreatDoorPlEdF4
import Derived.Test.YtiddnfpjgojoaaaGreatDoorPlEdF6
import Derived.Test.YtiddnfpjgojoaaaGreatDoorPlEdF8
namespace Go.PL
open Go Go.RowKit Go.Proofs
set_option maxRecDepth 100000
set_option linter.all false
set_option maxHeartbeats 4000000
attribute [local irreducible] Aj BM By
def Db (a0:BH) (vt51_17:Bool):Option (Bool):=
 (if vt51_17=true then
  (some (if(decide (1≤a0.N))=true then decide (a0.N≤131071)else false)).bind fun b20=>
  some b20
 else
  (if(a0.Kind==11)=true then
   (FL a0.Filter).bind fun r22=>
   some r22
  else
   (if(a0.Kind==12)=true then
    (some (if(decide (0≤a0.N))=true then decide (a0.N≤99)else false)).bind fun b24=>
    (some (if b24=true then decide (0≤a0.M)else false)).bind fun b25=>
    (some (if b25=true then decide (a0.M≤99)else false)).bind fun b26=>
    some b26
   else
    (if(a0.Kind==13)=true then
     (some (if(decide ((-99:Int)≤a0.N))=true then decide (a0.N≤99)else false)).bind fun b28=>
     (some (if b28=true then decide ((-99:Int)≤a0.M)else false)).bind fun b29=>
     (some (if b29=true then decide (a0.M≤99)else false)).bind fun b30=>
     some b30
    else
     some true))))
def Ig (a0:BH) (vt25_9:Bool):Option (Bool):=
 (if vt25_9=true then
  (EP a0.Sub).bind fun r12=>
  some r12
 else
  (if(a0.Kind==6)=true then
   (some (if(decide (0≤a0.N))=true then decide (a0.N≤31)else false)).bind fun b14=>
   some b14
  else
   (if(a0.Kind==7)=true then
    (some (if(decide (1≤a0.N))=true then decide (a0.N≤31)else false)).bind fun b16=>
    some b16
   else
    jn (fun(v:Bool)=>Db a0 v) (fun jJ18=>
    (if(a0.Kind==8)=true then
     jJ18 (a0.Kind==8)
    else
     jJ18 (a0.Kind==9))))))
def SK (a0:BH) (vt19_5:Bool):Option (Bool):=
 (if vt19_5=true then
  (NQ a0.N).bind fun r8=>
  some r8
 else
  jn (fun(v:Bool)=>Ig a0 v) (fun jJ10=>
  (if(a0.Kind==4)=true then
   jJ10 (a0.Kind==4)
  else
   jJ10 (a0.Kind==5))))
def SM (a0:BH):Option (Bool):=
 (some (if(decide (a0.Kind<1))=true then true else decide (14<a0.Kind))).bind fun b1=>
 (gd (b1==false) (QG a0)).bind fun r2=>
 (some (if b1=true then true else !(r2==(⟨0,0,0,[],(⟨0,0,0,0,0,0,0,[],0,0,(⟨0,0⟩:Ax),(⟨0,0⟩:Ax),(⟨0,0⟩:Ax)⟩:Aq)⟩:BH)))).bind fun b3=>
 (if b3=true then
  some false
 else
  jn (fun(v:Bool)=>SK a0 v) (fun jJ6=>
  (if(a0.Kind==2)=true then
   jJ6 (a0.Kind==2)
  else
   jJ6 (a0.Kind==3))))
def XX:CE TE Tryz.prog I0:=AI [kT,gD,I1,Ev] Ab Ad 9 93 Tryz.f93 (Tryz.f93.body.getD .skip) (.s .n (.s .n (.s (.s .n (.j ⟨[1,18],[(19, .c (.v (.k (.bool))))],[[1]],[]⟩ .n (.i .n (.j ⟨[1,18],[(25, .c (.v (.k (.bool))))],[[1]],[]⟩ .n (.i .n (.s .n (.i .n (.s .n (.i .n (.j ⟨[1,18],[(51, .c (.v (.k (.bool))))],[[1]],[]⟩ .n .n)))))))))) .n))) [.s 151] [.k (.bool)] (fun x=>SM x.1) Tryz.func93 rfl (by kernel_rfl)
def K2 (l7_38:List (List UInt8)):Option ((List UInt8)):=
 (if((l7_38.length:Int)==0)=true then
  some ny
 else
  (QH l7_38 cF).bind fun r41=>
  some r41)
def K3 (a0:Aq) (l7_35:List (List UInt8)):Option ((List UInt8)):=
 (Dw aW a0.Value).bind fun r37=>
 jn (fun(v:(List (List UInt8)))=>K2 v) (fun jJ39=>
 (if(r37==([]:List UInt8))=true then
  jJ39 l7_35
 else
  (app 16 l7_35 ([r37]:List (List UInt8))).bind fun l43=>
  jJ39 l43))
def K4 (a0:Aq) (l7_32:List (List UInt8)):Option ((List UInt8)):=
 (Dw aV a0.Tough).bind fun r34=>
 jn (fun(v:(List (List UInt8)))=>K3 a0 v) (fun jJ36=>
 (if(r34==([]:List UInt8))=true then
  jJ36 l7_32
 else
  (app 16 l7_32 ([r34]:List (List UInt8))).bind fun l45=>
  jJ36 l45))
def K5 (a0:Aq) (l7_29:List (List UInt8)):Option ((List UInt8)):=
 (Dw aR a0.Power).bind fun r31=>
 jn (fun(v:(List (List UInt8)))=>K4 a0 v) (fun jJ33=>
 (if(r31==([]:List UInt8))=true then
  jJ33 l7_29
 else
  (app 16 l7_29 ([r31]:List (List UInt8))).bind fun l47=>
  jJ33 l47))
def Ri (a0:Aq) (r6:(List (List UInt8))) (l7_26:List (List UInt8)):Option ((List UInt8)):=
 (idx r6 a0.Tap).bind fun e28=>
 jn (fun(v:(List (List UInt8)))=>K5 a0 v) (fun jJ30=>
 (if(e28==([]:List UInt8))=true then
  jJ30 l7_26
 else
  (app 16 l7_26 ([e28]:List (List UInt8))).bind fun l49=>
  jJ30 l49))
def K6 (vt12_53:Int) (l7_58:List (List UInt8)):Option ((Int×(List (List UInt8)))⊕((List (List UInt8)))):=
 some (.inl ((Ac (vt12_53+1)),l7_58))
def K7 (a0:Aq) (vt12_53:Int) (l7_54:List (List UInt8)):Option ((Int×(List (List UInt8)))⊕((List (List UInt8)))):=
 (if(decide (vt12_53<17))=true then
  jn (fun(v:(List (List UInt8)))=>K6 vt12_53 v) (fun jJ59=>
  (IV a0.Keys vt12_53).bind fun r60=>
  (if r60=true then
   (MI vt12_53).bind fun r62=>
   (cat SB r62).bind fun s63=>
   (app 16 l7_54 ([s63]:List (List UInt8))).bind fun l64=>
   jJ59 l64
  else
   jJ59 l7_54))
 else
  some (.inr l7_54))
def K8 (a0:Aq) (r6:(List (List UInt8))) (l7_24:List (List UInt8)):Option ((List UInt8)):=
 jn (fun(v:(List (List UInt8)))=>Ri a0 r6 v) (fun jJ27=>
 (iter (fun(v:Int×(List (List UInt8)))=>K7 a0 v.1 v.2) FU ((0:Int),l7_24)).bind (fun o0=>jJ27 o0))
def K9 (a0:Aq) (r6:(List (List UInt8))) (l7_22:List (List UInt8)):Option ((List UInt8)):=
 jn (fun(v:(List (List UInt8)))=>K8 a0 r6 v) (fun jJ25=>
 (if(a0.Sub != ([]:List UInt8))=true then
  (cat Ji a0.Sub).bind fun s66=>
  (app 16 l7_22 ([s66]:List (List UInt8))).bind fun l67=>
  jJ25 l67
 else
  jJ25 l7_22))
def La (vt11_71:Int) (l7_76:List (List UInt8)):Option ((Int×(List (List UInt8)))⊕((List (List UInt8)))):=
 some (.inl ((Ac (vt11_71+1)),l7_76))
def Lb (a0:Aq) (vt11_71:Int) (l7_72:List (List UInt8)):Option ((Int×(List (List UInt8)))⊕((List (List UInt8)))):=
 (if(decide (vt11_71<5))=true then
  jn (fun(v:(List (List UInt8)))=>La vt11_71 v) (fun jJ77=>
  (IV a0.NotColors vt11_71).bind fun r78=>
  (if r78=true then
   (J2 vt11_71).bind fun r80=>
   (cat JV r80).bind fun s81=>
   (app 16 l7_72 ([s81]:List (List UInt8))).bind fun l82=>
   jJ77 l82
  else
   jJ77 l7_72))
 else
  some (.inr l7_72))
def Rj (a0:Aq) (r6:(List (List UInt8))) (l7_20:List (List UInt8)):Option ((List UInt8)):=
 jn (fun(v:(List (List UInt8)))=>K9 a0 r6 v) (fun jJ23=>
 (iter (fun(v:Int×(List (List UInt8)))=>Lb a0 v.1 v.2) FU ((0:Int),l7_20)).bind (fun o0=>jJ23 o0))
def Lc (vt10_86:Int) (l7_91:List (List UInt8)):Option ((Int×(List (List UInt8)))⊕((List (List UInt8)))):=
 some (.inl ((Ac (vt10_86+1)),l7_91))
def Ld (a0:Aq) (vt10_86:Int) (l7_87:List (List UInt8)):Option ((Int×(List (List UInt8)))⊕((List (List UInt8)))):=
 (if(decide (vt10_86<5))=true then
  jn (fun(v:(List (List UInt8)))=>Lc vt10_86 v) (fun jJ92=>
  (IV a0.Colors vt10_86).bind fun r93=>
  (if r93=true then
   (J2 vt10_86).bind fun r95=>
   (app 16 l7_87 ([r95]:List (List UInt8))).bind fun l96=>
   jJ92 l96
  else
   jJ92 l7_87))
 else
  some (.inr l7_87))
def Rk (a0:Aq) (r6:(List (List UInt8))) (l7_18:List (List UInt8)):Option ((List UInt8)):=
 jn (fun(v:(List (List UInt8)))=>Rj a0 r6 v) (fun jJ21=>
 (iter (fun(v:Int×(List (List UInt8)))=>Ld a0 v.1 v.2) FU ((0:Int),l7_18)).bind (fun o0=>jJ21 o0))
def Js (vt9_100:Int) (l7_105:List (List UInt8)):Option ((Int×(List (List UInt8)))⊕((List (List UInt8)))):=
 some (.inl ((Ac (vt9_100+1)),l7_105))
def Jt (a0:Aq) (vt9_100:Int) (l7_101:List (List UInt8)):Option ((Int×(List (List UInt8)))⊕((List (List UInt8)))):=
 (if(decide (vt9_100<6))=true then
  jn (fun(v:(List (List UInt8)))=>Js vt9_100 v) (fun jJ106=>
  (IV a0.NotTypes vt9_100).bind fun r107=>
  (if r107=true then
   (Fb vt9_100).bind fun r109=>
   (cat JV r109).bind fun s110=>
   (app 16 l7_101 ([s110]:List (List UInt8))).bind fun l111=>
   jJ106 l111
  else
   jJ106 l7_101))
 else
  some (.inr l7_101))
def Rl (a0:Aq) (r6:(List (List UInt8))) (l7_16:List (List UInt8)):Option ((List UInt8)):=
 jn (fun(v:(List (List UInt8)))=>Rk a0 r6 v) (fun jJ19=>
 (iter (fun(v:Int×(List (List UInt8)))=>Jt a0 v.1 v.2) FU ((0:Int),l7_16)).bind (fun o0=>jJ19 o0))
def Ju (vt8_115:Int) (l7_120:List (List UInt8)):Option ((Int×(List (List UInt8)))⊕((List (List UInt8)))):=
 some (.inl ((Ac (vt8_115+1)),l7_120))
def Jv (a0:Aq) (vt8_115:Int) (l7_116:List (List UInt8)):Option ((Int×(List (List UInt8)))⊕((List (List UInt8)))):=
 (if(decide (vt8_115<6))=true then
  jn (fun(v:(List (List UInt8)))=>Ju vt8_115 v) (fun jJ121=>
  (IV a0.Types vt8_115).bind fun r122=>
  (if r122=true then
   (Fb vt8_115).bind fun r124=>
   (app 16 l7_116 ([r124]:List (List UInt8))).bind fun l125=>
   jJ121 l125
  else
   jJ121 l7_116))
 else
  some (.inr l7_116))
def Le (a0:Aq) (r6:(List (List UInt8))) (l7_14:List (List UInt8)):Option ((List UInt8)):=
 jn (fun(v:(List (List UInt8)))=>Rl a0 r6 v) (fun jJ17=>
 (iter (fun(v:Int×(List (List UInt8)))=>Jv a0 v.1 v.2) FU ((0:Int),l7_14)).bind (fun o0=>jJ17 o0))
def Lf (a0:Aq) (r5:(List (List UInt8))) (r6:(List (List UInt8))) (l7_11:List (List UInt8)):Option ((List UInt8)):=
 (idx r5 a0.Self).bind fun e13=>
 jn (fun(v:(List (List UInt8)))=>Le a0 r6 v) (fun jJ15=>
 (if(e13==([]:List UInt8))=true then
  jJ15 l7_11
 else
  (app 16 l7_11 ([e13]:List (List UInt8))).bind fun l127=>
  jJ15 l127))
def MW (a0:Aq) (r4:(List (List UInt8))) (r5:(List (List UInt8))) (r6:(List (List UInt8))) (l7_8:List (List UInt8)):Option ((List UInt8)):=
 (idx r4 a0.Who).bind fun e10=>
 jn (fun(v:(List (List UInt8)))=>Lf a0 r5 r6 v) (fun jJ12=>
 (if(e10==([]:List UInt8))=true then
  jJ12 l7_8
 else
  (app 16 l7_8 ([e10]:List (List UInt8))).bind fun l129=>
  jJ12 l129))
def Rm (a0:Aq):Option ((List UInt8)):=
 (FL a0).bind fun r1=>
 (if(!r1)=true then
  some ([]:List UInt8)
 else
  (F2).bind fun r3=>
  (G5).bind fun r4=>
  (F3).bind fun r5=>
  (G6).bind fun r6=>
  (idx r3 a0.Zone).bind fun e7=>
  jn (fun(v:(List (List UInt8)))=>MW a0 r4 r5 r6 v) (fun jJ9=>
  (if(e7==([]:List UInt8))=true then
   jJ9 ([]:List (List UInt8))
  else
   (app 16 ([]:List (List UInt8)) ([e7]:List (List UInt8))).bind fun l131=>
   jJ9 l131)))
def lH:CE TE Tryz.prog I0:=AI [Ev,U3,Xt,U4,Xu,pd,XR,Xs,XF,Va,kV] Ab Ad 9 134 Tryz.f134 (Tryz.f134.body.getD .skip) (.s .n (.s .n (.s .n (.s .n (.s .n (.s .n (.s .n (.s (.r [] [] (.j 6 ⟨[1,4,5,6],[(26, .c (.c (.osl [7])))],[[1]],[([7], .row 9)]⟩ .n .n)) (.s (.r [] [] (.j 6 ⟨[1,5,6],[(33, .c (.c (.osl [7])))],[[1]],[([7], .row 9)]⟩ .n .n)) (.s (.r [] [] (.j 6 ⟨[1,6],[(40, .c (.c (.osl [7])))],[[1]],[([7], .row 9)]⟩ .n .n)) (.j ⟨[1,6],[(7, .c (.c (.osl [7])))],[[1]],[([7], .row 9)]⟩ (.s .n (.l ⟨[1,6],[(7, .c (.c (.osl [7]))),(8, .c (.v (.k (.int .i64))))],[[1]],[([7], .row 9)]⟩ [(1,⟨[1,6],[(7, .c (.c (.osl [7])))],[[1]],[([7], .row 9)]⟩)] (.s .n (.j ⟨[1,6,8],[(7, .c (.c (.osl [7])))],[[1]],[([7], .row 9)]⟩ .n .n)))) (.j ⟨[1,6],[(7, .c (.c (.osl [7])))],[[1]],[([7], .row 9)]⟩ (.s .n (.l ⟨[1,6],[(7, .c (.c (.osl [7]))),(9, .c (.v (.k (.int .i64))))],[[1]],[([7], .row 9)]⟩ [(3,⟨[1,6],[(7, .c (.c (.osl [7])))],[[1]],[([7], .row 9)]⟩)] (.s .n (.j ⟨[1,6,9],[(7, .c (.c (.osl [7])))],[[1]],[([7], .row 9)]⟩ .n .n)))) (.j ⟨[1,6],[(7, .c (.c (.osl [7])))],[[1]],[([7], .row 9)]⟩ (.s .n (.l ⟨[1,6],[(7, .c (.c (.osl [7]))),(10, .c (.v (.k (.int .i64))))],[[1]],[([7], .row 9)]⟩ [(5,⟨[1,6],[(7, .c (.c (.osl [7])))],[[1]],[([7], .row 9)]⟩)] (.s .n (.j ⟨[1,6,10],[(7, .c (.c (.osl [7])))],[[1]],[([7], .row 9)]⟩ .n .n)))) (.j ⟨[1,6],[(7, .c (.c (.osl [7])))],[[1]],[([7], .row 9)]⟩ (.s .n (.l ⟨[1,6],[(7, .c (.c (.osl [7]))),(11, .c (.v (.k (.int .i64))))],[[1]],[([7], .row 9)]⟩ [(7,⟨[1,6],[(7, .c (.c (.osl [7])))],[[1]],[([7], .row 9)]⟩)] (.s .n (.j ⟨[1,6,11],[(7, .c (.c (.osl [7])))],[[1]],[([7], .row 9)]⟩ .n .n)))) (.j ⟨[1,6],[(7, .c (.c (.osl [7])))],[[1]],[([7], .row 9)]⟩ .n (.j ⟨[1,6],[(7, .c (.c (.osl [7])))],[[1]],[([7], .row 9)]⟩ (.s .n (.l ⟨[1,6],[(7, .c (.c (.osl [7]))),(12, .c (.v (.k (.int .i64))))],[[1]],[([7], .row 9)]⟩ [(9,⟨[1,6],[(7, .c (.c (.osl [7])))],[[1]],[([7], .row 9)]⟩)] (.s .n (.j ⟨[1,6,12],[(7, .c (.c (.osl [7])))],[[1]],[([7], .row 9)]⟩ .n .n)))) (.s (.r [] [] (.j 6 ⟨[1],[(124, .c (.c (.osl [7])))],[[1]],[([7], .row 9)]⟩ .n .n)) (.s (.r [] [] (.j 4 ⟨[1],[(129, .c (.c (.osl [7])))],[[1]],[([7], .row 9)]⟩ .n .n)) (.s (.r [] [] (.j 4 ⟨[1],[(134, .c (.c (.osl [7])))],[[1]],[([7], .row 9)]⟩ .n .n)) (.s (.r [] [] (.j 4 ⟨[],[(139, .c (.c (.osl [7])))],[],[([7], .row 9)]⟩ .n .n)) .n)))))))))))))))))))) [.s 92] [.k (.str)] (fun x=>Rm x.1) Tryz.func134 rfl (by kernel_rfl)
def Px (a0:BZ) (zone_t3_9:Int):Option (Bool):=
 (FL a0.Filter).bind fun r11=>
 (some (if r11=true then a0.Filter.Zone==zone_t3_9 else false)).bind fun b12=>
 some b12
def dy (a0:BZ):Option (Bool):=
 (MA a0.When).bind fun r1=>
 (some (if(r1==([]:List UInt8))=true then true else decide (a0.Who<0))).bind fun b2=>
 (some (if b2=true then true else decide (2<a0.Who))).bind fun b3=>
 (gd (b3==false) (HZ a0.When)).bind fun r4=>
 (some (if(!r4)=true then a0.Who != 0 else false)).bind fun b5=>
 (if(if b3=true then true else b5)=true then
  some false
 else
  (F5 a0.When).bind fun r7=>
  (if(!r7)=true then
   some (a0.Filter==(⟨0,0,0,0,0,0,0,[],0,0,(⟨0,0⟩:Ax),(⟨0,0⟩:Ax),(⟨0,0⟩:Ax)⟩:Aq))
  else
   jn (fun(v:Int)=>Px a0 v) (fun jJ10=>
   (if(a0.When==9)=true then
    jJ10 (5:Int)
   else
    jJ10 (0:Int)))))
def rN:CE TE Tryz.prog I0:=AI [Xv,QI,U6,Ev] Ab Ad 9 81 Tryz.f81 (Tryz.f81.body.getD .skip) (.s .n (.s .n (.s .n (.s .n (.j ⟨[1],[(3, .c (.v (.k (.int .i64))))],[[1]],[]⟩ .n .n))))) [.s 107] [.k (.bool)] (fun x=>dy x.1) Tryz.func81 rfl (by kernel_rfl)
def Hs (a0:Aq):Option (Bool):=
 (FL a0).bind fun r1=>
 (some (if r1=true then a0.Zone==0 else false)).bind fun b2=>
 some b2
def UO:CE TE Tryz.prog I0:=AI [Ev] Ab Ad 9 122 Tryz.f122 (Tryz.f122.body.getD .skip) .n [.s 92] [.k (.bool)] (fun x=>Hs x.1) Tryz.func122 rfl (by kernel_rfl)
def Rn (a0:DB):Option (Bool):=
 (if(!a0.Object)=true then
  (some (if a0.Player=true then a0.Filter==(⟨0,0,0,0,0,0,0,[],0,0,(⟨0,0⟩:Ax),(⟨0,0⟩:Ax),(⟨0,0⟩:Ax)⟩:Aq)else false)).bind fun b2=>
  some b2
 else
  (FL a0.Filter).bind fun r3=>
  (some (if(a0.Filter.Zone==0)=true then true else a0.Filter.Zone==3)).bind fun b4=>
  (some (if b4=true then true else a0.Filter.Zone==5)).bind fun b5=>
  (some (if r3=true then b5 else false)).bind fun b6=>
  some b6)
def lI:CE TE Tryz.prog I0:=AI [Ev] Ab Ad 9 123 Tryz.f123 (Tryz.f123.body.getD .skip) .n [.s 191] [.k (.bool)] (fun x=>Rn x.1) Tryz.func123 rfl (by kernel_rfl)
def Ka (a0:KD):Option (Bool):=
 (if(a0.Kind==4)=true then
  (FL a0.Filter).bind fun r7=>
  some r7
 else
  some (a0.Filter==(⟨0,0,0,0,0,0,0,[],0,0,(⟨0,0⟩:Ax),(⟨0,0⟩:Ax),(⟨0,0⟩:Ax)⟩:Aq)))
def SN (a0:KD) (specs_t1_1:Int):Option (Bool):=
 (some (if(decide (a0.Kind<1))=true then true else decide (8<a0.Kind))).bind fun b3=>
 (if b3=true then
  some false
 else
  jn (fun(v:Unit)=>Ka a0) (fun jJ5=>
  (G7 a0.Kind).bind fun r8=>
  (if r8=true then
   (some (if(decide (a0.N<1))=true then true else decide (specs_t1_1<a0.N))).bind fun b10=>
   (if b10=true then
    some false
   else
    jJ5 ())
  else
   (if(a0.N != 0)=true then
    some false
   else
    jJ5 ()))))
def dz (a0:KD) (a1:Int):Option (Bool):=
 jn (fun(v:Int)=>SN a0 v) (fun jJ2=>
 (if(decide (4<a1))=true then
  jJ2 (4:Int)
 else
  jJ2 a1))
def rO:CE TE Tryz.prog I0:=AI [Xw,Ev] Ab Ad 9 154 Tryz.f154 (Tryz.f154.body.getD .skip) (.s .n (.j ⟨[2],[(1, .c (.v (.k (.int .i64))))],[[2]],[]⟩ .n (.s .n (.j ⟨[2],[],[[2]],[]⟩ .n .n)))) [.s 115, .k (.int .i64)] [.k (.bool)] (fun x=>dz x.1 x.2.1) Tryz.func154 rfl (by kernel_rfl)
def Kb (a0:B9) (b3_1:B9):Option (Bool):=
 (some (if(decide (0≤a0.Kind))=true then decide (a0.Kind≤7)else false)).bind fun b3=>
 (some (if b3=true then b3_1==(⟨a0.Kind,0,0,(⟨0,0,0,0,0,0,0,[],0,0,(⟨0,0⟩:Ax),(⟨0,0⟩:Ax),(⟨0,0⟩:Ax)⟩:Aq)⟩:B9)else false)).bind fun b4=>
 some b4
def dC (a0:B9):Option (Bool):=
 jn (fun(v:B9)=>Kb a0 v) (fun jJ2=>
 (if(a0.Kind==0)=true then
  (some (if(decide (a0.N<0))=true then true else decide (1000000<a0.N))).bind fun b6=>
  (if b6=true then
   some false
  else
   jJ2 ({a0 with N:=(0:Int)}))
 else
  (if(a0.Kind==2)=true then
   (some (if(decide (a0.N<1))=true then true else decide (99<a0.N))).bind fun b9=>
   (gd (b9==false) (FL a0.Filter)).bind fun r10=>
   (some (if b9=true then true else !r10)).bind fun b11=>
   (if b11=true then
    some false
   else
    jJ2 ({{a0 with N:=(0:Int)}with Filter:=(⟨0,0,0,0,0,0,0,[],0,0,(⟨0,0⟩:Ax),(⟨0,0⟩:Ax),(⟨0,0⟩:Ax)⟩:Aq)}))
  else
   (if(a0.Kind==4)=true then
    (MB a0.Counter).bind fun r14=>
    (if(r14==([]:List UInt8))=true then
     some false
    else
     jJ2 ({a0 with Counter:=(0:Int)}))
   else
    jJ2 a0))))
def rP:CE TE Tryz.prog I0:=AI [Ev,Xx] Ab Ad 9 156 Tryz.f156 (Tryz.f156.body.getD .skip) (.s .n (.s .n (.j ⟨[1,3],[],[[1]],[([3], .box [.v (.s 117)])]⟩ .n .n))) [.s 117] [.k (.bool)] (fun x=>dC x.1) Tryz.func156 rfl (by kernel_rfl)
def Jw (a1:Aq) (zone_t5_1:Int):Option (Bool):=
 (FL a1).bind fun r3=>
 (some (if r3=true then a1.Zone==zone_t5_1 else false)).bind fun b4=>
 some b4
def Lg (a0:Int) (a1:Aq):Option (Bool):=
 jn (fun(v:Int)=>Jw a1 v) (fun jJ2=>
 (if(a0==21)=true then
  jJ2 (2:Int)
 else
  jJ2 (0:Int)))
def dD:CE TE Tryz.prog I0:=AI [Ev] Ab Ad 9 159 Tryz.f159 (Tryz.f159.body.getD .skip) (.s .n (.s .n (.j ⟨[3],[(5, .c (.v (.k (.int .i64))))],[[3]],[]⟩ .n .n))) [.k (.int .i64), .s 92] [.k (.bool)] (fun x=>Lg x.1 x.2.1) Tryz.func159 rfl (by kernel_rfl)
def MX (a0:Ao):Option (Bool):=
 (Ew a0 a0.Battlefield (0:Int) (-1:Int)).bind fun r4=>
 (gd (r4==true) (Ew a0 a0.Exile (4:Int) (-1:Int))).bind fun r5=>
 (some (if r4=true then r5 else false)).bind fun b6=>
 some b6
def LJ (a0:Ao) (i_t3_8:Int):Option ((Int)⊕(Unit⊕Bool)):=
 (if(decide (i_t3_8<(a0.Players.length:Int)))=true then
  (idx a0.Players i_t3_8).bind fun e12=>
  (DQ e12.Life (-1000000:Int) (1000000:Int)).bind fun r13=>
  (gd ((!r13)==false) (DQ e12.Venom (0:Int) (1000000:Int))).bind fun r14=>
  (some (if(!r13)=true then true else !r14)).bind fun b15=>
  (gd (b15==false) (DQ e12.Lands (0:Int) (1000000:Int))).bind fun r16=>
  (some (if b15=true then true else !r16)).bind fun b17=>
  (gd (b17==false) (NV e12.Pool)).bind fun r18=>
  (some (if b17=true then true else !r18)).bind fun b19=>
  (if b19=true then
   some (.inr (.inr false))
  else
   (Ew a0 e12.Library (2:Int) i_t3_8).bind fun r21=>
   (gd ((!r21)==false) (Ew a0 e12.Hand (1:Int) i_t3_8)).bind fun r22=>
   (some (if(!r21)=true then true else !r22)).bind fun b23=>
   (gd (b23==false) (Ew a0 e12.Graveyard (3:Int) i_t3_8)).bind fun r24=>
   (some (if b23=true then true else !r24)).bind fun b25=>
   (if b25=true then
    some (.inr (.inr false))
   else
    some (.inl (Ac (i_t3_8+1)))))
 else
  some (.inr (.inl ())))
def I5 (a0:Ao):Option (Bool):=
 (DQ (a0.Players.length:Int) (2:Int) (4:Int)).bind fun r1=>
 (if(!r1)=true then
  some false
 else
  jn (fun(v:Unit)=>MX a0) (fun jJ3=>
  (iter (fun(v:Int)=>LJ a0 v) FU (0:Int)).bind (Sum.elim (fun o0=>jJ3 ()) (fun o1=>some o1))))
def YZ:CE TE Tryz.prog I0:=AI [MC,gL,E_r26_list] Ab Ad 9 22 Tryz.f22 (Tryz.f22.body.getD .skip) (.s .n (.s .n (.j ⟨[1],[],[[1]],[]⟩ (.s .n (.l ⟨[1],[(3, .c (.v (.k (.int .i64))))],[[1]],[]⟩ [(1,⟨[1],[],[[1]],[]⟩),(0,⟨[],[(2, .c (.v (.k (.bool))))],[],[]⟩)] .n)) .n))) [.s 31] [.k (.bool)] (fun x=>I5 x.1) Tryz.func22 rfl (by kernel_rfl)
def dE (a0:List (A0)) (a1:Ao) (a2:Be) (r1:AM×Bool) (vt68_20:Bool):Option (Bool):=
 (if vt68_20=true then
  (Rf a1 a2).bind fun r23=>
  some r23
 else
  (if(a2.Kind==10)=true then
   (OC a0 a1 a2).bind fun r25=>
   some r25
  else
   (if(a2.Kind==11)=true then
    (J5 a1 a2.Object).bind fun r27=>
    (some (if r27.2=true then r27.1.Zone==5 else false)).bind fun b28=>
    (gd (b28==true) (Da a1 a2.Player)).bind fun r29=>
    (some (if b28=true then r29 else false)).bind fun b30=>
    some b30
   else
    (if(a2.Kind==12)=true then
     (gd (r1.2==true) (Da a1 a2.Player)).bind fun r32=>
     (some (if r1.2=true then r32 else false)).bind fun b33=>
     some b33
    else
     (if(a2.Kind==13)=true then
      (CQ a1 a2.Source).bind fun r35=>
      (some (if r1.2=true then r35.2 else false)).bind fun b36=>
      some b36
     else
      some false)))))
def dF (a0:List (A0)) (a1:Ao) (a2:Be) (r1:AM×Bool) (vt41_10:Bool):Option (Bool):=
 (if vt41_10=true then
  (Da a1 a2.Player).bind fun r13=>
  (gd (r13==true) (E4 a2)).bind fun r14=>
  (some (if r13=true then r14 else false)).bind fun b15=>
  some b15
 else
  (if(a2.Kind==6)=true then
   (some (if r1.2=true then !r1.1.Tapped else false)).bind fun b17=>
   some b17
  else
   (if(a2.Kind==7)=true then
    (some (if r1.2=true then r1.1.Tapped else false)).bind fun b19=>
    some b19
   else
    jn (fun(v:Bool)=>dE a0 a1 a2 r1 v) (fun jJ21=>
    (if(a2.Kind==8)=true then
     jJ21 (a2.Kind==8)
    else
     jJ21 (a2.Kind==9))))))
def ii (a0:List (A0)) (a1:Ao) (a2:Be) (r1:AM×Bool) (vt32_6:Bool):Option (Bool):=
 (if vt32_6=true then
  (Da a1 a2.Player).bind fun r9=>
  some r9
 else
  jn (fun(v:Bool)=>dF a0 a1 a2 r1 v) (fun jJ11=>
  (if(a2.Kind==4)=true then
   jJ11 (a2.Kind==4)
  else
   (if(a2.Kind==5)=true then
    jJ11 (a2.Kind==5)
   else
    jJ11 (a2.Kind==16)))))
def Ro (a0:List (A0)) (a1:Ao) (a2:Be):Option (Bool):=
 (CQ a1 a2.Object).bind fun r1=>
 (if(a2.Kind==1)=true then
  (UN a1 a2).bind fun r3=>
  some r3
 else
  (if(a2.Kind==2)=true then
   (UL a1 a2).bind fun r5=>
   some r5
  else
   jn (fun(v:Bool)=>ii a0 a1 a2 r1 v) (fun jJ7=>
   (if(a2.Kind==3)=true then
    jJ7 (a2.Kind==3)
   else
    (if(a2.Kind==14)=true then
     jJ7 (a2.Kind==14)
    else
     (if(a2.Kind==15)=true then
      jJ7 (a2.Kind==15)
     else
      jJ7 (a2.Kind==17)))))))
def lJ:CE TE Tryz.prog I0:=AI [E_event_fielded,YW,YT,H7,E5,XV,U7,MM] Ab Ad 9 14 Tryz.f14 (Tryz.f14.body.getD .skip) (.s .n (.s .n (.s (.s .n (.s .n (.i .n (.s .n (.i .n (.j ⟨[0,4,5,7,8,21],[(32, .c (.v (.k (.bool))))],[[4],[5],[7]],[]⟩ .n (.i .n (.j ⟨[0,4,5,7,8,21],[(41, .c (.v (.k (.bool))))],[[4],[5],[7]],[]⟩ .n (.i .n (.s .n (.i .n (.s .n (.i .n (.j ⟨[0,4,5,8,21],[(68, .c (.v (.k (.bool))))],[[4],[5]],[]⟩ .n .n)))))))))))))) .n))) [.k (.lst 73), .s 31, .s 34] [.k (.bool)] (fun x=>Ro x.1 x.2.1 x.2.2.1) Tryz.func14 rfl (by kernel_rfl)
def lK (a0:List (A0)) (a1:Ao) (a2:Be) (r:Bool):Prop:=AP Tryz.prog I0 14 [vL B5 a0,vA A4 a1,vA FF a2] (· =vB r)
theorem UP {a0:List (A0)} {a1:Ao} {a2:Be} {r:Bool} (h:Ro a0 a1 a2=some r):lK a0 a1 a2 r:=Cx (by kernel_rfl) (lJ.ok (a0,a1,a2,()) r h)
end Go.PL
