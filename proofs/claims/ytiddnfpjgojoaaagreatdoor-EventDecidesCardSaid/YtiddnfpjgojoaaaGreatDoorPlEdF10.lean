/- Functions of the program, as partial functions in Lean, with proofs. -/
import Derived.Test.YtiddnfpjgojoaaaGreatDoorPlEdB
import Derived.Test.YtiddnfpjgojoaaaGreatDoorPlEdF0
import Derived.Test.YtiddnfpjgojoaaaGreatDoorPlEdF1
import Derived.Test.YtiddnfpjgojoaaaGreatDoorPlEdF4
import Derived.Test.YtiddnfpjgojoaaaGreatDoorPlEdF6
import Derived.Test.YtiddnfpjgojoaaaGreatDoorPlEdF8
namespace Go.PL
open Go Go.RowKit Go.Proofs
set_option maxRecDepth 100000
set_option linter.all false
set_option maxHeartbeats 4000000
attribute [local irreducible] Aj BO Bz
def Df (a0:BI) (vt51_17:Bool):Option (Bool):=
 (if vt51_17=true then
  (some (if(decide (1≤a0.N))=true then decide (a0.N≤131071)else false)).bind fun b20=>
  some b20
 else
  (if(a0.Kind==11)=true then
   (FQ a0.Filter).bind fun r22=>
   some r22
  else
   (if(a0.Kind==12)=true then
    (some (if(decide (0≤a0.N))=true then decide (a0.N≤99)else false)).bind fun b24=>
    (some (if b24=true then decide (0≤a0.M)else false)).bind fun b25=>
    (some (if b25=true then decide (a0.M≤99)else false)).bind fun b26=>
    some b26
   else
    (if(a0.Kind==13)=true then
     (some (if(decide ((-99:Int)≤a0.N))=true then decide (a0.N≤99)else false)).bind fun b28=>
     (some (if b28=true then decide ((-99:Int)≤a0.M)else false)).bind fun b29=>
     (some (if b29=true then decide (a0.M≤99)else false)).bind fun b30=>
     some b30
    else
     some true))))
def In (a0:BI) (vt25_9:Bool):Option (Bool):=
 (if vt25_9=true then
  (ES a0.Sub).bind fun r12=>
  some r12
 else
  (if(a0.Kind==6)=true then
   (some (if(decide (0≤a0.N))=true then decide (a0.N≤31)else false)).bind fun b14=>
   some b14
  else
   (if(a0.Kind==7)=true then
    (some (if(decide (1≤a0.N))=true then decide (a0.N≤31)else false)).bind fun b16=>
    some b16
   else
    jn (fun(v:Bool)=>Df a0 v) (fun jJ18=>
    (if(a0.Kind==8)=true then
     jJ18 (a0.Kind==8)
    else
     jJ18 (a0.Kind==9))))))
def SS (a0:BI) (vt19_5:Bool):Option (Bool):=
 (if vt19_5=true then
  (N1 a0.N).bind fun r8=>
  some r8
 else
  jn (fun(v:Bool)=>In a0 v) (fun jJ10=>
  (if(a0.Kind==4)=true then
   jJ10 (a0.Kind==4)
  else
   jJ10 (a0.Kind==5))))
def ST (a0:BI):Option (Bool):=
 (some (if(decide (a0.Kind<1))=true then true else decide (14<a0.Kind))).bind fun b1=>
 (gd (b1==false) (QL a0)).bind fun r2=>
 (some (if b1=true then true else !(r2==(⟨0,0,0,[],(⟨0,0,0,0,0,0,0,[],0,0,(⟨0,0⟩:Az),(⟨0,0⟩:Az),(⟨0,0⟩:Az)⟩:Ar)⟩:BI)))).bind fun b3=>
 (if b3=true then
  some false
 else
  jn (fun(v:Bool)=>SS a0 v) (fun jJ6=>
  (if(a0.Kind==2)=true then
   jJ6 (a0.Kind==2)
  else
   jJ6 (a0.Kind==3))))
def Yc:CE TE Tryz.prog I0:=AK [ll,gW,I9,Ev] Ab Ad 9 93 Tryz.f93 (Tryz.f93.body.getD .skip) (.s .n (.s .n (.s (.s .n (.j ⟨[1,18],[(19, .c (.v (.k (.bool))))],[[1]],[]⟩ .n (.i .n (.j ⟨[1,18],[(25, .c (.v (.k (.bool))))],[[1]],[]⟩ .n (.i .n (.s .n (.i .n (.s .n (.i .n (.j ⟨[1,18],[(51, .c (.v (.k (.bool))))],[[1]],[]⟩ .n .n)))))))))) .n))) [.s 151] [.k (.bool)] (fun x=>ST x.1) Tryz.func93 rfl (by kernel_rfl)
def Lf (l7_38:List (List UInt8)):Option ((List UInt8)):=
 (if((l7_38.length:Int)==0)=true then
  some nN
 else
  (QM l7_38 cU).bind fun r41=>
  some r41)
def Lg (a0:Ar) (l7_35:List (List UInt8)):Option ((List UInt8)):=
 (Dz bj a0.Value).bind fun r37=>
 jn (fun(v:(List (List UInt8)))=>Lf v) (fun jJ39=>
 (if(r37==([]:List UInt8))=true then
  jJ39 l7_35
 else
  (app 16 l7_35 ([r37]:List (List UInt8))).bind fun l43=>
  jJ39 l43))
def Lh (a0:Ar) (l7_32:List (List UInt8)):Option ((List UInt8)):=
 (Dz bi a0.Tough).bind fun r34=>
 jn (fun(v:(List (List UInt8)))=>Lg a0 v) (fun jJ36=>
 (if(r34==([]:List UInt8))=true then
  jJ36 l7_32
 else
  (app 16 l7_32 ([r34]:List (List UInt8))).bind fun l45=>
  jJ36 l45))
def Li (a0:Ar) (l7_29:List (List UInt8)):Option ((List UInt8)):=
 (Dz be a0.Power).bind fun r31=>
 jn (fun(v:(List (List UInt8)))=>Lh a0 v) (fun jJ33=>
 (if(r31==([]:List UInt8))=true then
  jJ33 l7_29
 else
  (app 16 l7_29 ([r31]:List (List UInt8))).bind fun l47=>
  jJ33 l47))
def Rn (a0:Ar) (r6:(List (List UInt8))) (l7_26:List (List UInt8)):Option ((List UInt8)):=
 (idx r6 a0.Tap).bind fun e28=>
 jn (fun(v:(List (List UInt8)))=>Li a0 v) (fun jJ30=>
 (if(e28==([]:List UInt8))=true then
  jJ30 l7_26
 else
  (app 16 l7_26 ([e28]:List (List UInt8))).bind fun l49=>
  jJ30 l49))
def Lj (vt12_53:Int) (l7_58:List (List UInt8)):Option ((Int×(List (List UInt8)))⊕((List (List UInt8)))):=
 some (.inl ((Ac (vt12_53+1)),l7_58))
def Lk (a0:Ar) (vt12_53:Int) (l7_54:List (List UInt8)):Option ((Int×(List (List UInt8)))⊕((List (List UInt8)))):=
 (if(decide (vt12_53<17))=true then
  jn (fun(v:(List (List UInt8)))=>Lj vt12_53 v) (fun jJ59=>
  (I4 a0.Keys vt12_53).bind fun r60=>
  (if r60=true then
   (MS vt12_53).bind fun r62=>
   (cat SI r62).bind fun s63=>
   (app 16 l7_54 ([s63]:List (List UInt8))).bind fun l64=>
   jJ59 l64
  else
   jJ59 l7_54))
 else
  some (.inr l7_54))
def Ll (a0:Ar) (r6:(List (List UInt8))) (l7_24:List (List UInt8)):Option ((List UInt8)):=
 jn (fun(v:(List (List UInt8)))=>Rn a0 r6 v) (fun jJ27=>
 (iter (fun(v:Int×(List (List UInt8)))=>Lk a0 v.1 v.2) FU ((0:Int),l7_24)).bind (fun o0=>jJ27 o0))
def Lm (a0:Ar) (r6:(List (List UInt8))) (l7_22:List (List UInt8)):Option ((List UInt8)):=
 jn (fun(v:(List (List UInt8)))=>Ll a0 r6 v) (fun jJ25=>
 (if(a0.Sub != ([]:List UInt8))=true then
  (cat Js a0.Sub).bind fun s66=>
  (app 16 l7_22 ([s66]:List (List UInt8))).bind fun l67=>
  jJ25 l67
 else
  jJ25 l7_22))
def Ln (vt11_71:Int) (l7_76:List (List UInt8)):Option ((Int×(List (List UInt8)))⊕((List (List UInt8)))):=
 some (.inl ((Ac (vt11_71+1)),l7_76))
def Lo (a0:Ar) (vt11_71:Int) (l7_72:List (List UInt8)):Option ((Int×(List (List UInt8)))⊕((List (List UInt8)))):=
 (if(decide (vt11_71<5))=true then
  jn (fun(v:(List (List UInt8)))=>Ln vt11_71 v) (fun jJ77=>
  (I4 a0.NotColors vt11_71).bind fun r78=>
  (if r78=true then
   (Kf vt11_71).bind fun r80=>
   (cat J7 r80).bind fun s81=>
   (app 16 l7_72 ([s81]:List (List UInt8))).bind fun l82=>
   jJ77 l82
  else
   jJ77 l7_72))
 else
  some (.inr l7_72))
def Ro (a0:Ar) (r6:(List (List UInt8))) (l7_20:List (List UInt8)):Option ((List UInt8)):=
 jn (fun(v:(List (List UInt8)))=>Lm a0 r6 v) (fun jJ23=>
 (iter (fun(v:Int×(List (List UInt8)))=>Lo a0 v.1 v.2) FU ((0:Int),l7_20)).bind (fun o0=>jJ23 o0))
def Lp (vt10_86:Int) (l7_91:List (List UInt8)):Option ((Int×(List (List UInt8)))⊕((List (List UInt8)))):=
 some (.inl ((Ac (vt10_86+1)),l7_91))
def Lq (a0:Ar) (vt10_86:Int) (l7_87:List (List UInt8)):Option ((Int×(List (List UInt8)))⊕((List (List UInt8)))):=
 (if(decide (vt10_86<5))=true then
  jn (fun(v:(List (List UInt8)))=>Lp vt10_86 v) (fun jJ92=>
  (I4 a0.Colors vt10_86).bind fun r93=>
  (if r93=true then
   (Kf vt10_86).bind fun r95=>
   (app 16 l7_87 ([r95]:List (List UInt8))).bind fun l96=>
   jJ92 l96
  else
   jJ92 l7_87))
 else
  some (.inr l7_87))
def Rq (a0:Ar) (r6:(List (List UInt8))) (l7_18:List (List UInt8)):Option ((List UInt8)):=
 jn (fun(v:(List (List UInt8)))=>Ro a0 r6 v) (fun jJ21=>
 (iter (fun(v:Int×(List (List UInt8)))=>Lq a0 v.1 v.2) FU ((0:Int),l7_18)).bind (fun o0=>jJ21 o0))
def JC (vt9_100:Int) (l7_105:List (List UInt8)):Option ((Int×(List (List UInt8)))⊕((List (List UInt8)))):=
 some (.inl ((Ac (vt9_100+1)),l7_105))
def JD (a0:Ar) (vt9_100:Int) (l7_101:List (List UInt8)):Option ((Int×(List (List UInt8)))⊕((List (List UInt8)))):=
 (if(decide (vt9_100<6))=true then
  jn (fun(v:(List (List UInt8)))=>JC vt9_100 v) (fun jJ106=>
  (I4 a0.NotTypes vt9_100).bind fun r107=>
  (if r107=true then
   (Fi vt9_100).bind fun r109=>
   (cat J7 r109).bind fun s110=>
   (app 16 l7_101 ([s110]:List (List UInt8))).bind fun l111=>
   jJ106 l111
  else
   jJ106 l7_101))
 else
  some (.inr l7_101))
def Rr (a0:Ar) (r6:(List (List UInt8))) (l7_16:List (List UInt8)):Option ((List UInt8)):=
 jn (fun(v:(List (List UInt8)))=>Rq a0 r6 v) (fun jJ19=>
 (iter (fun(v:Int×(List (List UInt8)))=>JD a0 v.1 v.2) FU ((0:Int),l7_16)).bind (fun o0=>jJ19 o0))
def JE (vt8_115:Int) (l7_120:List (List UInt8)):Option ((Int×(List (List UInt8)))⊕((List (List UInt8)))):=
 some (.inl ((Ac (vt8_115+1)),l7_120))
def JF (a0:Ar) (vt8_115:Int) (l7_116:List (List UInt8)):Option ((Int×(List (List UInt8)))⊕((List (List UInt8)))):=
 (if(decide (vt8_115<6))=true then
  jn (fun(v:(List (List UInt8)))=>JE vt8_115 v) (fun jJ121=>
  (I4 a0.Types vt8_115).bind fun r122=>
  (if r122=true then
   (Fi vt8_115).bind fun r124=>
   (app 16 l7_116 ([r124]:List (List UInt8))).bind fun l125=>
   jJ121 l125
  else
   jJ121 l7_116))
 else
  some (.inr l7_116))
def Lr (a0:Ar) (r6:(List (List UInt8))) (l7_14:List (List UInt8)):Option ((List UInt8)):=
 jn (fun(v:(List (List UInt8)))=>Rr a0 r6 v) (fun jJ17=>
 (iter (fun(v:Int×(List (List UInt8)))=>JF a0 v.1 v.2) FU ((0:Int),l7_14)).bind (fun o0=>jJ17 o0))
def Lt (a0:Ar) (r5:(List (List UInt8))) (r6:(List (List UInt8))) (l7_11:List (List UInt8)):Option ((List UInt8)):=
 (idx r5 a0.Self).bind fun e13=>
 jn (fun(v:(List (List UInt8)))=>Lr a0 r6 v) (fun jJ15=>
 (if(e13==([]:List UInt8))=true then
  jJ15 l7_11
 else
  (app 16 l7_11 ([e13]:List (List UInt8))).bind fun l127=>
  jJ15 l127))
def M6 (a0:Ar) (r4:(List (List UInt8))) (r5:(List (List UInt8))) (r6:(List (List UInt8))) (l7_8:List (List UInt8)):Option ((List UInt8)):=
 (idx r4 a0.Who).bind fun e10=>
 jn (fun(v:(List (List UInt8)))=>Lt a0 r5 r6 v) (fun jJ12=>
 (if(e10==([]:List UInt8))=true then
  jJ12 l7_8
 else
  (app 16 l7_8 ([e10]:List (List UInt8))).bind fun l129=>
  jJ12 l129))
def Rs (a0:Ar):Option ((List UInt8)):=
 (FQ a0).bind fun r1=>
 (if(!r1)=true then
  some ([]:List UInt8)
 else
  (F7).bind fun r3=>
  (Hb).bind fun r4=>
  (F8).bind fun r5=>
  (Hc).bind fun r6=>
  (idx r3 a0.Zone).bind fun e7=>
  jn (fun(v:(List (List UInt8)))=>M6 a0 r4 r5 r6 v) (fun jJ9=>
  (if(e7==([]:List UInt8))=true then
   jJ9 ([]:List (List UInt8))
  else
   (app 16 ([]:List (List UInt8)) ([e7]:List (List UInt8))).bind fun l131=>
   jJ9 l131)))
def lX:CE TE Tryz.prog I0:=AK [Ev,Va,XI,Vb,XJ,pt,X7,XH,XV,Vh,lp] Ab Ad 9 134 Tryz.f134 (Tryz.f134.body.getD .skip) (.s .n (.s .n (.s .n (.s .n (.s .n (.s .n (.s .n (.s (.r [] [] (.j 6 ⟨[1,4,5,6],[(26, .c (.c (.osl [7])))],[[1]],[([7], .row 9)]⟩ .n .n)) (.s (.r [] [] (.j 6 ⟨[1,5,6],[(33, .c (.c (.osl [7])))],[[1]],[([7], .row 9)]⟩ .n .n)) (.s (.r [] [] (.j 6 ⟨[1,6],[(40, .c (.c (.osl [7])))],[[1]],[([7], .row 9)]⟩ .n .n)) (.j ⟨[1,6],[(7, .c (.c (.osl [7])))],[[1]],[([7], .row 9)]⟩ (.s .n (.l ⟨[1,6],[(7, .c (.c (.osl [7]))),(8, .c (.v (.k (.int .i64))))],[[1]],[([7], .row 9)]⟩ [(1,⟨[1,6],[(7, .c (.c (.osl [7])))],[[1]],[([7], .row 9)]⟩)] (.s .n (.j ⟨[1,6,8],[(7, .c (.c (.osl [7])))],[[1]],[([7], .row 9)]⟩ .n .n)))) (.j ⟨[1,6],[(7, .c (.c (.osl [7])))],[[1]],[([7], .row 9)]⟩ (.s .n (.l ⟨[1,6],[(7, .c (.c (.osl [7]))),(9, .c (.v (.k (.int .i64))))],[[1]],[([7], .row 9)]⟩ [(3,⟨[1,6],[(7, .c (.c (.osl [7])))],[[1]],[([7], .row 9)]⟩)] (.s .n (.j ⟨[1,6,9],[(7, .c (.c (.osl [7])))],[[1]],[([7], .row 9)]⟩ .n .n)))) (.j ⟨[1,6],[(7, .c (.c (.osl [7])))],[[1]],[([7], .row 9)]⟩ (.s .n (.l ⟨[1,6],[(7, .c (.c (.osl [7]))),(10, .c (.v (.k (.int .i64))))],[[1]],[([7], .row 9)]⟩ [(5,⟨[1,6],[(7, .c (.c (.osl [7])))],[[1]],[([7], .row 9)]⟩)] (.s .n (.j ⟨[1,6,10],[(7, .c (.c (.osl [7])))],[[1]],[([7], .row 9)]⟩ .n .n)))) (.j ⟨[1,6],[(7, .c (.c (.osl [7])))],[[1]],[([7], .row 9)]⟩ (.s .n (.l ⟨[1,6],[(7, .c (.c (.osl [7]))),(11, .c (.v (.k (.int .i64))))],[[1]],[([7], .row 9)]⟩ [(7,⟨[1,6],[(7, .c (.c (.osl [7])))],[[1]],[([7], .row 9)]⟩)] (.s .n (.j ⟨[1,6,11],[(7, .c (.c (.osl [7])))],[[1]],[([7], .row 9)]⟩ .n .n)))) (.j ⟨[1,6],[(7, .c (.c (.osl [7])))],[[1]],[([7], .row 9)]⟩ .n (.j ⟨[1,6],[(7, .c (.c (.osl [7])))],[[1]],[([7], .row 9)]⟩ (.s .n (.l ⟨[1,6],[(7, .c (.c (.osl [7]))),(12, .c (.v (.k (.int .i64))))],[[1]],[([7], .row 9)]⟩ [(9,⟨[1,6],[(7, .c (.c (.osl [7])))],[[1]],[([7], .row 9)]⟩)] (.s .n (.j ⟨[1,6,12],[(7, .c (.c (.osl [7])))],[[1]],[([7], .row 9)]⟩ .n .n)))) (.s (.r [] [] (.j 6 ⟨[1],[(124, .c (.c (.osl [7])))],[[1]],[([7], .row 9)]⟩ .n .n)) (.s (.r [] [] (.j 4 ⟨[1],[(129, .c (.c (.osl [7])))],[[1]],[([7], .row 9)]⟩ .n .n)) (.s (.r [] [] (.j 4 ⟨[1],[(134, .c (.c (.osl [7])))],[[1]],[([7], .row 9)]⟩ .n .n)) (.s (.r [] [] (.j 4 ⟨[],[(139, .c (.c (.osl [7])))],[],[([7], .row 9)]⟩ .n .n)) .n)))))))))))))))))))) [.s 92] [.k (.str)] (fun x=>Rs x.1) Tryz.func134 rfl (by kernel_rfl)
def PD (a0:B1) (zone_t3_9:Int):Option (Bool):=
 (FQ a0.Filter).bind fun r11=>
 (some (if r11=true then a0.Filter.Zone==zone_t3_9 else false)).bind fun b12=>
 some b12
def dR (a0:B1):Option (Bool):=
 (MK a0.When).bind fun r1=>
 (some (if(r1==([]:List UInt8))=true then true else decide (a0.Who<0))).bind fun b2=>
 (some (if b2=true then true else decide (2<a0.Who))).bind fun b3=>
 (gd (b3==false) (Ia a0.When)).bind fun r4=>
 (some (if(!r4)=true then a0.Who != 0 else false)).bind fun b5=>
 (if(if b3=true then true else b5)=true then
  some false
 else
  (Ga a0.When).bind fun r7=>
  (if(!r7)=true then
   some (a0.Filter==(⟨0,0,0,0,0,0,0,[],0,0,(⟨0,0⟩:Az),(⟨0,0⟩:Az),(⟨0,0⟩:Az)⟩:Ar))
  else
   jn (fun(v:Int)=>PD a0 v) (fun jJ10=>
   (if(a0.When==9)=true then
    jJ10 (5:Int)
   else
    jJ10 (0:Int)))))
def sb:CE TE Tryz.prog I0:=AK [XK,QN,Vd,Ev] Ab Ad 9 81 Tryz.f81 (Tryz.f81.body.getD .skip) (.s .n (.s .n (.s .n (.s .n (.j ⟨[1],[(3, .c (.v (.k (.int .i64))))],[[1]],[]⟩ .n .n))))) [.s 107] [.k (.bool)] (fun x=>dR x.1) Tryz.func81 rfl (by kernel_rfl)
def Hw (a0:Ar):Option (Bool):=
 (FQ a0).bind fun r1=>
 (some (if r1=true then a0.Zone==0 else false)).bind fun b2=>
 some b2
def UW:CE TE Tryz.prog I0:=AK [Ev] Ab Ad 9 122 Tryz.f122 (Tryz.f122.body.getD .skip) .n [.s 92] [.k (.bool)] (fun x=>Hw x.1) Tryz.func122 rfl (by kernel_rfl)
def Rt (a0:DF):Option (Bool):=
 (if(!a0.Object)=true then
  (some (if a0.Player=true then a0.Filter==(⟨0,0,0,0,0,0,0,[],0,0,(⟨0,0⟩:Az),(⟨0,0⟩:Az),(⟨0,0⟩:Az)⟩:Ar)else false)).bind fun b2=>
  some b2
 else
  (FQ a0.Filter).bind fun r3=>
  (some (if(a0.Filter.Zone==0)=true then true else a0.Filter.Zone==3)).bind fun b4=>
  (some (if b4=true then true else a0.Filter.Zone==5)).bind fun b5=>
  (some (if r3=true then b5 else false)).bind fun b6=>
  some b6)
def lY:CE TE Tryz.prog I0:=AK [Ev] Ab Ad 9 123 Tryz.f123 (Tryz.f123.body.getD .skip) .n [.s 191] [.k (.bool)] (fun x=>Rt x.1) Tryz.func123 rfl (by kernel_rfl)
def Kn (a0:KQ):Option (Bool):=
 (if(a0.Kind==4)=true then
  (FQ a0.Filter).bind fun r7=>
  some r7
 else
  some (a0.Filter==(⟨0,0,0,0,0,0,0,[],0,0,(⟨0,0⟩:Az),(⟨0,0⟩:Az),(⟨0,0⟩:Az)⟩:Ar)))
def SU (a0:KQ) (specs_t1_1:Int):Option (Bool):=
 (some (if(decide (a0.Kind<1))=true then true else decide (8<a0.Kind))).bind fun b3=>
 (if b3=true then
  some false
 else
  jn (fun(v:Unit)=>Kn a0) (fun jJ5=>
  (Hd a0.Kind).bind fun r8=>
  (if r8=true then
   (some (if(decide (a0.N<1))=true then true else decide (specs_t1_1<a0.N))).bind fun b10=>
   (if b10=true then
    some false
   else
    jJ5 ())
  else
   (if(a0.N != 0)=true then
    some false
   else
    jJ5 ()))))
def dT (a0:KQ) (a1:Int):Option (Bool):=
 jn (fun(v:Int)=>SU a0 v) (fun jJ2=>
 (if(decide (4<a1))=true then
  jJ2 (4:Int)
 else
  jJ2 a1))
def sc:CE TE Tryz.prog I0:=AK [XL,Ev] Ab Ad 9 154 Tryz.f154 (Tryz.f154.body.getD .skip) (.s .n (.j ⟨[2],[(1, .c (.v (.k (.int .i64))))],[[2]],[]⟩ .n (.s .n (.j ⟨[2],[],[[2]],[]⟩ .n .n)))) [.s 115, .k (.int .i64)] [.k (.bool)] (fun x=>dT x.1 x.2.1) Tryz.func154 rfl (by kernel_rfl)
def Ko (a0:Cd) (b3_1:Cd):Option (Bool):=
 (some (if(decide (0≤a0.Kind))=true then decide (a0.Kind≤7)else false)).bind fun b3=>
 (some (if b3=true then b3_1==(⟨a0.Kind,0,0,(⟨0,0,0,0,0,0,0,[],0,0,(⟨0,0⟩:Az),(⟨0,0⟩:Az),(⟨0,0⟩:Az)⟩:Ar)⟩:Cd)else false)).bind fun b4=>
 some b4
def dU (a0:Cd):Option (Bool):=
 jn (fun(v:Cd)=>Ko a0 v) (fun jJ2=>
 (if(a0.Kind==0)=true then
  (some (if(decide (a0.N<0))=true then true else decide (1000000<a0.N))).bind fun b6=>
  (if b6=true then
   some false
  else
   jJ2 ({a0 with N:=(0:Int)}))
 else
  (if(a0.Kind==2)=true then
   (some (if(decide (a0.N<1))=true then true else decide (99<a0.N))).bind fun b9=>
   (gd (b9==false) (FQ a0.Filter)).bind fun r10=>
   (some (if b9=true then true else !r10)).bind fun b11=>
   (if b11=true then
    some false
   else
    jJ2 ({{a0 with N:=(0:Int)}with Filter:=(⟨0,0,0,0,0,0,0,[],0,0,(⟨0,0⟩:Az),(⟨0,0⟩:Az),(⟨0,0⟩:Az)⟩:Ar)}))
  else
   (if(a0.Kind==4)=true then
    (ML a0.Counter).bind fun r14=>
    (if(r14==([]:List UInt8))=true then
     some false
    else
     jJ2 ({a0 with Counter:=(0:Int)}))
   else
    jJ2 a0))))
def sd:CE TE Tryz.prog I0:=AK [Ev,XM] Ab Ad 9 156 Tryz.f156 (Tryz.f156.body.getD .skip) (.s .n (.s .n (.j ⟨[1,3],[],[[1]],[([3], .box [.v (.s 117)])]⟩ .n .n))) [.s 117] [.k (.bool)] (fun x=>dU x.1) Tryz.func156 rfl (by kernel_rfl)
def JG (a1:Ar) (zone_t5_1:Int):Option (Bool):=
 (FQ a1).bind fun r3=>
 (some (if r3=true then a1.Zone==zone_t5_1 else false)).bind fun b4=>
 some b4
def Lu (a0:Int) (a1:Ar):Option (Bool):=
 jn (fun(v:Int)=>JG a1 v) (fun jJ2=>
 (if(a0==21)=true then
  jJ2 (2:Int)
 else
  jJ2 (0:Int)))
def dV:CE TE Tryz.prog I0:=AK [Ev] Ab Ad 9 159 Tryz.f159 (Tryz.f159.body.getD .skip) (.s .n (.s .n (.j ⟨[3],[(5, .c (.v (.k (.int .i64))))],[[3]],[]⟩ .n .n))) [.k (.int .i64), .s 92] [.k (.bool)] (fun x=>Lu x.1 x.2.1) Tryz.func159 rfl (by kernel_rfl)
def M7 (a0:Ao):Option (Bool):=
 (Ew a0 a0.Battlefield (0:Int) (-1:Int)).bind fun r4=>
 (gd (r4==true) (Ew a0 a0.Exile (4:Int) (-1:Int))).bind fun r5=>
 (some (if r4=true then r5 else false)).bind fun b6=>
 some b6
def LW (a0:Ao) (i_t3_8:Int):Option ((Int)⊕(Unit⊕Bool)):=
 (if(decide (i_t3_8<(a0.Players.length:Int)))=true then
  (idx a0.Players i_t3_8).bind fun e12=>
  (DT e12.Life (-1000000:Int) (1000000:Int)).bind fun r13=>
  (gd ((!r13)==false) (DT e12.Venom (0:Int) (1000000:Int))).bind fun r14=>
  (some (if(!r13)=true then true else !r14)).bind fun b15=>
  (gd (b15==false) (DT e12.Lands (0:Int) (1000000:Int))).bind fun r16=>
  (some (if b15=true then true else !r16)).bind fun b17=>
  (gd (b17==false) (N6 e12.Pool)).bind fun r18=>
  (some (if b17=true then true else !r18)).bind fun b19=>
  (if b19=true then
   some (.inr (.inr false))
  else
   (Ew a0 e12.Library (2:Int) i_t3_8).bind fun r21=>
   (gd ((!r21)==false) (Ew a0 e12.Hand (1:Int) i_t3_8)).bind fun r22=>
   (some (if(!r21)=true then true else !r22)).bind fun b23=>
   (gd (b23==false) (Ew a0 e12.Graveyard (3:Int) i_t3_8)).bind fun r24=>
   (some (if b23=true then true else !r24)).bind fun b25=>
   (if b25=true then
    some (.inr (.inr false))
   else
    some (.inl (Ac (i_t3_8+1)))))
 else
  some (.inr (.inl ())))
def Jd (a0:Ao):Option (Bool):=
 (DT (a0.Players.length:Int) (2:Int) (4:Int)).bind fun r1=>
 (if(!r1)=true then
  some false
 else
  jn (fun(v:Unit)=>M7 a0) (fun jJ3=>
  (iter (fun(v:Int)=>LW a0 v) FU (0:Int)).bind (Sum.elim (fun o0=>jJ3 ()) (fun o1=>some o1))))
def Ze:CE TE Tryz.prog I0:=AK [MM,hJ,E_r26_list] Ab Ad 9 22 Tryz.f22 (Tryz.f22.body.getD .skip) (.s .n (.s .n (.j ⟨[1],[],[[1]],[]⟩ (.s .n (.l ⟨[1],[(3, .c (.v (.k (.int .i64))))],[[1]],[]⟩ [(1,⟨[1],[],[[1]],[]⟩),(0,⟨[],[(2, .c (.v (.k (.bool))))],[],[]⟩)] .n)) .n))) [.s 31] [.k (.bool)] (fun x=>Jd x.1) Tryz.func22 rfl (by kernel_rfl)
def dW (a0:List (A1)) (a1:Ao) (a2:Be) (r1:AO×Bool) (vt68_20:Bool):Option (Bool):=
 (if vt68_20=true then
  (Rl a1 a2).bind fun r23=>
  some r23
 else
  (if(a2.Kind==10)=true then
   (ON a0 a1 a2).bind fun r25=>
   some r25
  else
   (if(a2.Kind==11)=true then
    (Ki a1 a2.Object).bind fun r27=>
    (some (if r27.2=true then r27.1.Zone==5 else false)).bind fun b28=>
    (gd (b28==true) (De a1 a2.Player)).bind fun r29=>
    (some (if b28=true then r29 else false)).bind fun b30=>
    some b30
   else
    (if(a2.Kind==12)=true then
     (gd (r1.2==true) (De a1 a2.Player)).bind fun r32=>
     (some (if r1.2=true then r32 else false)).bind fun b33=>
     some b33
    else
     (if(a2.Kind==13)=true then
      (CT a1 a2.Source).bind fun r35=>
      (some (if r1.2=true then r35.2 else false)).bind fun b36=>
      some b36
     else
      some false)))))
def dX (a0:List (A1)) (a1:Ao) (a2:Be) (r1:AO×Bool) (vt41_10:Bool):Option (Bool):=
 (if vt41_10=true then
  (De a1 a2.Player).bind fun r13=>
  (gd (r13==true) (Fa a2)).bind fun r14=>
  (some (if r13=true then r14 else false)).bind fun b15=>
  some b15
 else
  (if(a2.Kind==6)=true then
   (some (if r1.2=true then !r1.1.Tapped else false)).bind fun b17=>
   some b17
  else
   (if(a2.Kind==7)=true then
    (some (if r1.2=true then r1.1.Tapped else false)).bind fun b19=>
    some b19
   else
    jn (fun(v:Bool)=>dW a0 a1 a2 r1 v) (fun jJ21=>
    (if(a2.Kind==8)=true then
     jJ21 (a2.Kind==8)
    else
     jJ21 (a2.Kind==9))))))
def iI (a0:List (A1)) (a1:Ao) (a2:Be) (r1:AO×Bool) (vt32_6:Bool):Option (Bool):=
 (if vt32_6=true then
  (De a1 a2.Player).bind fun r9=>
  some r9
 else
  jn (fun(v:Bool)=>dX a0 a1 a2 r1 v) (fun jJ11=>
  (if(a2.Kind==4)=true then
   jJ11 (a2.Kind==4)
  else
   (if(a2.Kind==5)=true then
    jJ11 (a2.Kind==5)
   else
    jJ11 (a2.Kind==16)))))
def Ru (a0:List (A1)) (a1:Ao) (a2:Be):Option (Bool):=
 (CT a1 a2.Object).bind fun r1=>
 (if(a2.Kind==1)=true then
  (UV a1 a2).bind fun r3=>
  some r3
 else
  (if(a2.Kind==2)=true then
   (UT a1 a2).bind fun r5=>
   some r5
  else
   jn (fun(v:Bool)=>iI a0 a1 a2 r1 v) (fun jJ7=>
   (if(a2.Kind==3)=true then
    jJ7 (a2.Kind==3)
   else
    (if(a2.Kind==14)=true then
     jJ7 (a2.Kind==14)
    else
     (if(a2.Kind==15)=true then
      jJ7 (a2.Kind==15)
     else
      jJ7 (a2.Kind==17)))))))
def lZ:CE TE Tryz.prog I0:=AK [E_event_fielded,Zb,Y8,If,Fb,Ya,Ve,MW] Ab Ad 9 14 Tryz.f14 (Tryz.f14.body.getD .skip) (.s .n (.s .n (.s (.s .n (.s .n (.i .n (.s .n (.i .n (.j ⟨[0,4,5,7,8,21],[(32, .c (.v (.k (.bool))))],[[4],[5],[7]],[]⟩ .n (.i .n (.j ⟨[0,4,5,7,8,21],[(41, .c (.v (.k (.bool))))],[[4],[5],[7]],[]⟩ .n (.i .n (.s .n (.i .n (.s .n (.i .n (.j ⟨[0,4,5,8,21],[(68, .c (.v (.k (.bool))))],[[4],[5]],[]⟩ .n .n)))))))))))))) .n))) [.k (.lst 73), .s 31, .s 34] [.k (.bool)] (fun x=>Ru x.1 x.2.1 x.2.2.1) Tryz.func14 rfl (by kernel_rfl)
def l5 (a0:List (A1)) (a1:Ao) (a2:Be) (r:Bool):Prop:=AQ Tryz.prog I0 14 [vL B8 a0,vA A4 a1,vA FK a2] (· =vB r)
theorem UX {a0:List (A1)} {a1:Ao} {a2:Be} {r:Bool} (h:Ru a0 a1 a2=some r):l5 a0 a1 a2 r:=Cz (by kernel_rfl) (lZ.ok (a0,a1,a2,()) r h)
end Go.PL
