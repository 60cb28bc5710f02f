/- Functions of the program, as partial functions in Lean, with proofs. -/
import Derived.Test.YteginlijmbcopaaGreatDoorPlBkB
import Derived.Test.YteginlijmbcopaaGreatDoorPlBkF0
import Derived.Test.YteginlijmbcopaaGreatDoorPlBkF1
import Derived.Test.YteginlijmbcopaaGreatDoorPlBkF13
import Derived.Test.YteginlijmbcopaaGreatDoorPlBkF14
import Derived.Test.YteginlijmbcopaaGreatDoorPlBkF2
import Derived.Test.YteginlijmbcopaaGreatDoorPlBkF3
import Derived.Test.YteginlijmbcopaaGreatDoorPlBkF4
import Derived.Test.YteginlijmbcopaaGreatDoorPlBkF5
import Derived.Test.YteginlijmbcopaaGreatDoorPlBkF6
namespace Go.PL
open Go Go.RowKit Go.Proofs
set_option maxRecDepth 100000
set_option linter.all false
set_option maxHeartbeats 4000000
attribute [local irreducible] Ad Cx Cr
def IR:Option (Bool):=
 (E3).bind fun r29=>
 some r29
def IS (afa:Int):Option ((Int)⊕(Unit⊕Bool)):=
 some (.inl (Ac (afa+1)))
def IT (abj:Int):Option ((Int)⊕(Unit⊕Bool)):=
 some (.inl (Ac (abj+1)))
def IU (e36:Aa) (abj:Int) (amS:(Unit)->Option ((Int)⊕(Unit⊕Bool))) (e46:List (Int)):Option ((Int)⊕(Unit⊕Bool)):=
 (idx e36.bk abj).bind fun e51=>
 (idx e36.bk abj).bind fun e52=>
 (if((Ac ((e51.q_.length:Int)+(e52.Hand.length:Int))) != (e46.length:Int)) then
  some (.inr (.inr false))
 else
  amS ())
def E4 (acM:List (Int)) (afh:Int):Option ((Int)⊕(Unit⊕Bool)):=
 (if(decide (afh<(acM.length:Int))) then
  (idx acM afh).bind fun e59=>
  (idx acM afh).bind fun e60=>
  (if e60 != 0 then
   some (.inr (.inr false))
  else
   some (.inl (Ac (afh+1))))
 else
  some (.inr (.inl ())))
def IV (e36:Aa) (abj:Int) (amS:(Unit)->Option ((Int)⊕(Unit⊕Bool))) (e46:List (Int)) (acM:List (Int)):Option ((Int)⊕(Unit⊕Bool)):=
 jn (fun(v:Unit)=>IU e36 abj amS e46) (fun aw9=>
 (iter (fun(v:Int)=>E4 acM v) FU (0:Int)).bind (Sum.elim (fun o0=>aw9 ()) (fun o1=>some (.inr (.inr o1)))))
def CD (e46:List (Int)) (aix:Int) (abW:List (Int)):Option ((Int×(List (Int)))⊕((List (Int)))):=
 (if(decide (aix<(e46.length:Int))) then
  (idx e46 aix).bind fun e70=>
  (idx abW e70).bind fun e71=>
  (idx abW e70).bind fun e72=>
  (idx abW e70).bind fun e73=>
  (idx abW e70).bind fun e75=>
  (some (abW.set (e70).toNat (Ac (e72 - 1)))).bind fun l74=>
  some (.inl ((Ac (aix+1)),l74))
 else
  some (.inr abW))
def Dk (a0:Az) (e36:Aa) (abj:Int):Option ((Int)⊕(Unit⊕Bool)):=
 (if(decide (abj<(a0.h_.length:Int))) then
  jn (fun(v:Unit)=>IT abj) (fun amS=>
  (idx a0.h_ abj).bind fun e46=>
  (Ju e36 abj (a0.C_.length:Int)).bind fun r47=>
  jn (fun(v:(List (Int)))=>IV e36 abj amS e46 v) (fun aw_=>
  (iter (fun(v:Int×(List (Int)))=>CD e46 v.1 v.2) FU ((0:Int),r47)).bind (fun o0=>aw_ o0)))
 else
  some (.inr (.inl ())))
def E5 (a0:Az) (aiw:List (Aa)) (afa:Int):Option ((Int)⊕(Unit⊕Bool)):=
 (if(decide (afa<(aiw.length:Int))) then
  jn (fun(v:Unit)=>IS afa) (fun aos=>
  (idx aiw afa).bind fun e36=>
  (gX a0.C_ e36).bind fun r37=>
  (some (if !r37 then true else(e36.bk.length:Int) != (a0.h_.length:Int))).bind fun b38=>
  (if b38 then
   some (.inr (.inr false))
  else
   (iter (fun(v:Int)=>Dk a0 e36 v) FU (0:Int)).bind (Sum.elim (fun o0=>aos ()) (fun o1=>some (.inr (.inr o1))))))
 else
  some (.inr (.inl ())))
def Dl (a0:Az) (aiw:List (Aa)):Option (Bool):=
 jn (fun(v:Unit)=>IR) (fun axc=>
 (iter (fun(v:Int)=>E5 a0 aiw v) FU (0:Int)).bind (Sum.elim (fun o0=>axc ()) (fun o1=>some o1)))
def E6 (a0:Az) (r4:Aa×Int) (agE:Aa) (aoX:Int) (agx:Aw) (ahY:Bool) (apV:Bool):Option (Bool):=
 jn (fun(v:(List (Aa)))=>Dl a0 v) (fun aou=>
 (some (if false then true else !ahY)).bind fun b76=>
 (if b76 then
  (if false then
   (eQ ([r4.1,agE]:List (Aa)) 0 (1:Int)).bind fun l79=>
   aou l79
  else
   aou ([r4.1,agE]:List (Aa)))
 else
  (Bg agx.Options).bind fun r80=>
  (if true then
   (eQ ([r4.1,agE]:List (Aa)) 0 (1:Int)).bind fun l82=>
   aou l82
  else
   aou ([r4.1,agE]:List (Aa)))))
def OW (alU:(Aa×Int×Aw×Bool×Bool)->Option (Bool)) (anu:Aa) (aiV:Int) (agw:Aw) (ahX:Bool) (ajF:Bool):Option (Bool):=
 alU (({{{anu with aaf:=(1:Int)}with Step:=(0:Int)}with abI:=false}),aiV,agw,ahX,ajF)
def Hp (ac5:List (Bl)) (adQ:Int) (amg:Aa) (ah1:Int) (af5:Aw) (aho:Bool) (aiX:Bool):Option (((List (Bl))×Int×Aa×Int×Aw×Bool×Bool)⊕((Aa×Int×Aw×Bool×Bool))):=
 some (.inl (ac5,(Ac (adQ+1)),amg,ah1,af5,aho,aiX))
def C3 (af3:Int) (ae9:Int) (alF:Aa) (amt:List (Int)) (aeJ:Int) (adh:Aw) (ad9:Bool) (afG:Bool):Option ((Int×Aa×Int×Aw×Bool×Bool)⊕((Aa×Int×Aw×Bool×Bool)⊕(Aa×Int×Aw×Bool×Bool))):=
 (idx amt (0:Int)).bind fun ayJ=>
 (if ayJ==0 then
  some (.inr (.inr (alF,aeJ,adh,ad9,afG)))
 else
  (EX alF af3).bind fun awp=>
  some (.inl ((Ac (ae9 - 1)),awp,aeJ,adh,ad9,afG)))
def C4 (aas:List (List (Int))) (ac5:List (Bl)) (af3:Int) (ae9:Int) (ais:Aa) (Tj:Int) (aaz:Aw) (aay:Bool) (aba:Bool):Option ((Int×Aa×Int×Aw×Bool×Bool)⊕((Aa×Int×Aw×Bool×Bool)⊕(Aa×Int×Aw×Bool×Bool))):=
 (if decide (0<ae9) then
  (IP ais af3 ae9).bind fun alF=>
  (D9 alF (1:Int) af3).bind fun awr=>
  (if((awr.length:Int)==0) then
   some (.inr (.inr (alF,Tj,aaz,aay,aba)))
  else
   jn (fun(v:(List (Int))×Int×Aw×Bool×Bool)=>C3 af3 ae9 alF v.1 v.2.1 v.2.2.1 v.2.2.2.1 v.2.2.2.2) (fun ala=>
   (some (if false then true else aay)).bind fun azo=>
   (some (if azo then true else aba)).bind fun auv=>
   (gd (auv==false) (Nd (⟨11,af3,0,0,0,0,ac5⟩:Aw))).bind fun awo=>
   (some (if auv then true else awo)).bind fun azn=>
   (if azn then
    (DP (⟨11,af3,0,0,0,0,ac5⟩:Aw)).bind fun awn=>
    ala (awn,Tj,aaz,aay,aba)
   else if(Tj==(aas.length:Int)) then
    (Bg ac5).bind fun asy=>
    (DP (⟨11,af3,0,0,0,0,asy⟩:Aw)).bind fun awm=>
    ala (awm,Tj,(⟨11,af3,0,0,0,0,asy⟩:Aw),true,aba)
   else
    (idx aas Tj).bind fun aF_=>
    (idx aas Tj).bind fun auf=>
    (MA (⟨11,af3,0,0,0,0,ac5⟩:Aw) auf).bind fun awk=>
    (if !awk then
     (DP (⟨11,af3,0,0,0,0,ac5⟩:Aw)).bind fun awj=>
     ala (awj,(Ac (Tj+1)),aaz,aay,true)
    else
     (Cg auf).bind fun aqj=>
     ala (aqj,(Ac (Tj+1)),aaz,aay,aba)))))
 else
  some (.inr (.inl (ais,Tj,aaz,aay,aba))))
def C5 (aas:List (List (Int))) (r90:(List (Int))) (ac5:List (Bl)) (adQ:Int) (ait:Aa) (aeK:Int) (adi:Aw) (ad_:Bool) (afH:Bool):Option (((List (Bl))×Int×Aa×Int×Aw×Bool×Bool)⊕((Aa×Int×Aw×Bool×Bool))):=
 (if(decide (adQ<(r90.length:Int))) then
  jn (fun(v:Aa×Int×Aw×Bool×Bool)=>Hp ac5 adQ v.1 v.2.1 v.2.2.1 v.2.2.2.1 v.2.2.2.2) (fun apl=>
  (idx r90 adQ).bind fun af3=>
  (iter (fun(v:Int×Aa×Int×Aw×Bool×Bool)=>C4 aas ac5 af3 v.1 v.2.1 v.2.2.1 v.2.2.2.1 v.2.2.2.2.1 v.2.2.2.2.2) FU ((7:Int),ait,aeK,adi,ad_,afH)).bind (Sum.elim (fun o0=>apl (o0.1,o0.2.1,o0.2.2.1,o0.2.2.2.1,o0.2.2.2.2)) (fun o1=>apl (o1.1,o1.2.1,o1.2.2.1,o1.2.2.2.1,o1.2.2.2.2))))
 else
  some (.inr (ait,aeK,adi,ad_,afH)))
def Dm (a0:Az) (r4:Aa×Int) (ajE:Int) (aeB:Int) (adM:Int) (adL:Int) (aeb:Int) (aeA:Int) (af4:Int) (ahZ:Bool) (ajG:Bool) (aas:List (List (Int))):Option (Bool):=
 jn (fun(v:Aa×Int×Aw×Bool×Bool)=>E6 a0 r4 v.1 v.2.1 v.2.2.1 v.2.2.2.1 v.2.2.2.2) (fun alU=>
 (Eb r4.1).bind fun r83=>
 jn (fun(v:Aa×Int×Aw×Bool×Bool)=>OW alU v.1 v.2.1 v.2.2.1 v.2.2.2.1 v.2.2.2.2) (fun aw8=>
 (IM (⟨r83.bk,r83.b_,r83.AT,r83.acv,r83.Stack,r83.aar,r83.ack,r83.aaf,r83.aaj,r83.Step,r83.abI,r83.Priority,r83.Passes,r83.g_,r83.l_,r83.ab2,r83.Extra,r83.ac9,r83.aaK⟩:Aa)).bind fun r90=>
 (iter (fun(v:(List (Bl))×Int×Aa×Int×Aw×Bool×Bool)=>C5 aas r90 v.1 v.2.1 v.2.2.1 v.2.2.2.1 v.2.2.2.2.1 v.2.2.2.2.2.1 v.2.2.2.2.2.2) FU (([(⟨10,0,0⟩:Bl),(⟨9,0,0⟩:Bl)]:List (Bl)),(0:Int),(⟨r83.bk,r83.b_,r83.AT,r83.acv,r83.Stack,r83.aar,r83.ack,r83.aaf,r83.aaj,r83.Step,r83.abI,r83.Priority,r83.Passes,r83.g_,r83.l_,r83.ab2,r83.Extra,r83.ac9,r83.aaK⟩:Aa),ajE,(⟨aeB,adM,adL,aeb,aeA,af4,([]:List (Bl))⟩:Aw),ahZ,ajG)).bind (fun o0=>aw8 (o0.1,o0.2.1,o0.2.2.1,o0.2.2.2.1,o0.2.2.2.2))))
def NZ (afS:(Int×Int×Int×Int×Int×Int×Int×Bool×Bool×(List (List (Int))))->Option (Bool)) (ah0:Int) (aec:Int) (ady:Int) (adx:Int) (adN:Int) (aea:Int) (afE:Int) (ahn:Bool) (aiW:Bool) (ag_:List (List (Int))):Option (Bool):=
 afS (ah0,aec,ady,adx,adN,aea,afE,ahn,aiW,ag_)
def Cm (a1:List (List (Int))) (agU:Int) (aeI:Int) (acg:Int) (abF:Int) (abE:Int) (abR:Int) (acf:Int) (ac1:Int) (ad8:Bool) (afF:Bool) (ad2:List (List (Int))):Option ((Int×Int×Int×Int×Int×Int×Int×Int×Bool×Bool×(List (List (Int))))⊕((Int×Int×Int×Int×Int×Int×Int×Bool×Bool×(List (List (Int)))))):=
 (if(decide (agU<(a1.length:Int))) then
  (idx a1 agU).bind fun ayB=>
  (Cg ayB).bind fun awf=>
  (app 24 ad2 ([awf]:List (List (Int)))).bind fun awP=>
  some (.inl ((Ac (agU+1)),aeI,acg,abF,abE,abR,acf,ac1,ad8,afF,awP))
 else
  some (.inr (aeI,acg,abF,abE,abR,acf,ac1,ad8,afF,ad2)))
def Fq (a0:Az) (a1:List (List (Int))):Option (Bool):=
 (Pp a0).bind fun r1=>
 (if !r1 then
  (E3).bind fun r3=>
  some r3
 else
  (Ec a0).bind fun r4=>
  (if r4.2 != 0 then
   (E3).bind fun r6=>
   (some (if r6 then(r4.1.b_.length:Int)==0 else false)).bind fun b7=>
   (some (if b7 then(r4.1.bk.length:Int)==0 else false)).bind fun b8=>
   some b8
  else
   jn (fun(v:Int×Int×Int×Int×Int×Int×Int×Bool×Bool×(List (List (Int))))=>Dm a0 r4 v.1 v.2.1 v.2.2.1 v.2.2.2.1 v.2.2.2.2.1 v.2.2.2.2.2.1 v.2.2.2.2.2.2.1 v.2.2.2.2.2.2.2.1 v.2.2.2.2.2.2.2.2.1 v.2.2.2.2.2.2.2.2.2) (fun afS=>
   jn (fun(v:Int×Int×Int×Int×Int×Int×Int×Bool×Bool×(List (List (Int))))=>NZ afS v.1 v.2.1 v.2.2.1 v.2.2.2.1 v.2.2.2.2.1 v.2.2.2.2.2.1 v.2.2.2.2.2.2.1 v.2.2.2.2.2.2.2.1 v.2.2.2.2.2.2.2.2.1 v.2.2.2.2.2.2.2.2.2) (fun as2=>
   (iter (fun(v:Int×Int×Int×Int×Int×Int×Int×Int×Bool×Bool×(List (List (Int))))=>Cm a1 v.1 v.2.1 v.2.2.1 v.2.2.2.1 v.2.2.2.2.1 v.2.2.2.2.2.1 v.2.2.2.2.2.2.1 v.2.2.2.2.2.2.2.1 v.2.2.2.2.2.2.2.2.1 v.2.2.2.2.2.2.2.2.2.1 v.2.2.2.2.2.2.2.2.2.2) FU ((0:Int),(0:Int),(0:Int),(0:Int),(0:Int),(0:Int),(0:Int),(0:Int),false,false,([]:List (List (Int))))).bind (fun o0=>as2 (o0.1,o0.2.1,o0.2.2.1,o0.2.2.2.1,o0.2.2.2.2.1,o0.2.2.2.2.2.1,o0.2.2.2.2.2.2.1,o0.2.2.2.2.2.2.2.1,o0.2.2.2.2.2.2.2.2.1,o0.2.2.2.2.2.2.2.2.2))))))
def QW:Cj:=mC [kU,bc,VE,Mv,Lt,PZ,P1,Lq,Sh,PW,GH,VC,MB,wx,Y7] 5 Tryz.f5 (.s .n (.s .n (.s .n (.s .n (.s (.r [] [] (.j 1 ⟨[2,5],[(46, .c (.c (.ptr [7,46] (0))))],[[2],[5]],[([7,46], .box [.c (.j_ [1000,7,46]),Bd,Bd,Bd,Bd,Bd,Bd,Bd, .c (.L_),GJ,GJ]),([1000,7,46], .row 31)]⟩ (.s (.r [] [] (.g 0 (.ug [2,5,46]) .n)) (.s (.r [] [([7,46],0,[1000,7,46],31)] .n) (.j ⟨[3],[],[[2],[5]],[([7,46], .box [.c (.j_ [1000,7,46]),Bd,Bd,Bd,Bd,Bd,Bd,Bd, .c (.L_),GJ,GJ]),([1000,7,46], .row 31)]⟩ (.s .n (.l ⟨[3,8,9],[BS 10],[[2],[5]],[([7,46], .box [.c (.j_ [1000,7,46]),Bd,Bd,Bd,Bd,Bd,Bd,Bd, .c (.L_),GJ,GJ]),([1000,7,46], .row 31)]⟩ [(1,⟨[3],[],[[2],[5]],[([7,46], .box [.c (.j_ [1000,7,46]),Bd,Bd,Bd,Bd,Bd,Bd,Bd, .c (.L_),GJ,GJ]),([1000,7,46], .row 31)]⟩)] (.s .n (.s .n (.s (.s .n (.r [] [] (.t (.q 4 .lz (.q 6 .co (.q 7 .bf .n)))))) .n))))) .n))) .n)) (.s (.r [] [] (.j 2 ⟨[2,5,7],[(49, .agg [.v (.s 36)])],[[2],[5],[1000,7,46]],[([7,46], .box [.c (.j_ [1000,7,46]),Bd, .v (.s 54),GJ,GJ])]⟩ (.s (.r [] [] (.g 0 (.ug [2,5,7,49]) .n)) (.s (.r [] [] (.q 1 .co .n)) (.s .n (.s .n (.j ⟨[3,4],[],[[2],[4,49],[5],[1000,7,46]],[([3,49], .box [.v (.s 36)]),([7,46], .box [.c (.j_ [1000,7,46]),Bd, .v (.s 54),GJ,GJ])]⟩ (.s (.r [[3,0,11,49],[4,0,11,49],[16,0,11,49],[1,0,11,49],[6,0,11,49],[5,0,11,49]] [] (.g 0 (.fd [1000003,0,0,11,49]) .n)) (.l ⟨[0,3,4,16,17],[(5, .c (.v (.k (.t_ 82)))),BS 18],[[2],[4,49],[5],[1000,7,46]],[([3,49], .box [.v (.s 36)]),([7,46], .box [.c (.j_ [1000,7,46]),Bd, .v (.s 54),GJ,GJ])]⟩ [(1,⟨[3,4],[],[[2],[4,49],[5],[1000,7,46]],[([3,49], .box [.v (.s 36)]),([7,46], .box [.c (.j_ [1000,7,46]),Bd, .v (.s 54),GJ,GJ])]⟩)] (.s .n (.s .n (.j ⟨[0,3,4,5,16,17,18],[],[[2],[4,49],[5],[1000,7,46]],[([3,49], .box [.v (.s 36)]),([7,46], .box [.c (.j_ [1000,7,46]),Bd, .v (.s 54),GJ,GJ])]⟩ (.s .n (.s .n (.l ⟨[0,3,4,5,7,16,17,18],[BS 8],[[2],[4,49],[5],[1000,7,46]],[([3,49], .box [.v (.s 36)]),([7,46], .box [.c (.j_ [1000,7,46]),Bd, .v (.s 54),GJ,GJ])]⟩ [(3,⟨[0,3,4,5,16,17,18],[],[[2],[4,49],[5],[1000,7,46]],[([3,49], .box [.v (.s 36)]),([7,46], .box [.c (.j_ [1000,7,46]),Bd, .v (.s 54),GJ,GJ])]⟩),(2,⟨[0,3,4,5,16,17,18],[],[[2],[4,49],[5],[1000,7,46]],[([3,49], .box [.v (.s 36)]),([7,46], .box [.c (.j_ [1000,7,46]),Bd, .v (.s 54),GJ,GJ])]⟩)] (.s .n (.s (.s .n (.s .n (.s (.r [] [] (.j 4 ⟨[0,3,4,5,7,8,16,17,18],[(39, .c (.v (.k (.t_ 3))))],[[2],[3,49],[4,49],[5],[1000,7,46]],[([7,46], .box [.c (.j_ [1000,7,46]),Bd, .v (.s 54),GJ,GJ])]⟩ (.s (.r [] [] (.g 0 (.ug [0,3,4,5,7,8,16,17,18,39]) .n)) (.s .n (.s (.s .n (.i (.s (.r [] [] (.q 2 .co .n)) .n) .n)) (.s .n (.s .n (.s .n (.s (.r [] [] (.q 1 .co .n)) .n))))))) .n)) .n))) .n))))) .n))))) .n))))) .n)) (.s .n (.j ⟨[2],[(9, .c (.v (.k (.t_ 36))))],[[2]],[]⟩ (.s (.r [] [] (.c 1 (.s (.r [] [] (.g 0 (.ug [2,9,55]) .n)) (.s .n (.s .n (.s (.r [] [] (.q 2 .co .n)) .n)))) .n)) .n) (.j M5 (.s .n (.l ⟨[2,61,62],[BS 63],[[2]],[]⟩ [(1,M5),(0,⟨[],[JL 4],[],[]⟩)] (.s .n (.s .n (.j ⟨[2,61,62,63],[],[[2]],[]⟩ (.s .n (.s .n (.s .n (.l ⟨[2,13,61,62,63,82,83],[BS 84],[[2],[13]],[]⟩ [(3,⟨[2,61,62,63],[],[[2]],[]⟩),(0,⟨[],[JL 4],[],[]⟩)] (.s .n (.s .n (.j ⟨[2,13,61,62,63,82,83,84],[],[[2],[13]],[]⟩ (.s .n (.s (.r [] [] (.q 5 .co .n)) (.j ⟨[2,13,14,15,16,61,62,63,82,83,84],[],[[2],[13]],[([0,0,94], .row 3)]⟩ (.s .n (.l ⟨[2,13,14,15,16,61,62,63,82,83,84,95,96],[BS 97],[[2],[13]],[([0,0,94], .row 3)]⟩ [(5,⟨[2,13,14,15,16,61,62,63,82,83,84],[],[[2],[13]],[([0,0,94], .row 3)]⟩)] .n)) (.j ⟨[2,13,14,15,61,62,63,82,83,84],[],[[2],[13]],[]⟩ (.s .n (.l ⟨[2,13,14,15,61,62,63,82,83,84,108,109],[BS 110],[[0,0,94],[2],[13]],[]⟩ [(7,⟨[2,13,14,15,61,62,63,82,83,84],[],[[2],[13]],[]⟩),(0,⟨[],[JL 4],[],[]⟩)] .n)) .n)))) .n))))))) .n))))) .n))))))))) [.s 26, .k (.t_ 31)] [.k (.bool)] (fun x=>Fq x.1 x.2.1) Tryz.func5 (by kernel_rfl)
def QX (a0:Az) (a1:List (List (Int))) (r:Bool):Prop:=BV Tryz.prog I0 5 [vA M8 a0,vL (eL (eI .i64)) a1] (· =vB r)
theorem PH {a0:Az} {a1:List (List (Int))} {r:Bool} (h:Fq a0 a1=some r):QX a0 a1 r:=IC (by kernel_rfl) (QW.ok (a0,a1,()) r h)
end Go.PL
