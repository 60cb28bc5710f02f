/- Functions of the program, as partial functions in Lean, with proofs. -/
import Derived.Test.YteginlijmbcopaaGreatDoorPlBkB
import Derived.Test.YteginlijmbcopaaGreatDoorPlBkF0
import Derived.Test.YteginlijmbcopaaGreatDoorPlBkF1
import Derived.Test.YteginlijmbcopaaGreatDoorPlBkF13
import Derived.Test.YteginlijmbcopaaGreatDoorPlBkF2
import Derived.Test.YteginlijmbcopaaGreatDoorPlBkF3
import Derived.Test.YteginlijmbcopaaGreatDoorPlBkF4
import Derived.Test.YteginlijmbcopaaGreatDoorPlBkF5
namespace Go.PL
open Go Go.RowKit Go.Proofs
set_option maxRecDepth 100000
set_option linter.all false
set_option maxHeartbeats 4000000
attribute [local irreducible] Ad Cx Cr
def Wb (r2:Aa×Int) (aiB:Aa):Option (Bool):=
 (Ec (⟨([]:List (Bx)),([]:List (List (Int))),0,0⟩:Az)).bind fun r16=>
 (OF (3:Int) (1:Int)).bind fun r17=>
 (idx r17.h_ (1:Int)).bind fun e18=>
 (idx r17.h_ (1:Int)).bind fun e19=>
 (n_ ((1:Int)<((r17.h_.length:Nat):Int))).bind fun u20=>
 (idx r17.h_ (1:Int)).bind fun e21=>
 (n_ ((1:Int)<((r17.h_.length:Nat):Int))).bind fun u22=>
 (idx e21 (2:Int)).bind fun e23=>
 (idx r17.h_ (1:Int)).bind fun e24=>
 (n_ ((1:Int)<((r17.h_.length:Nat):Int))).bind fun u25=>
 (idx e24 (2:Int)).bind fun e26=>
 (some (r17.h_.set ((1:Int)).toNat (e24.set ((2:Int)).toNat (1:Int)))).bind fun l27=>
 (Ec (⟨r17.C_,l27,r17.ab2,r17.Td⟩:Az)).bind fun r28=>
 (some (if r2.2==0 then(r2.1.b_.length:Int)==18 else false)).bind fun b29=>
 (some (if b29 then r2.1.g_==19 else false)).bind fun b30=>
 (some (if b30 then r2.1.aaj==1 else false)).bind fun b31=>
 (gd (b31==true) (idx r2.1.bk (0:Int))).bind fun e32=>
 (some (if b31 then(e32.q_.length:Int)==9 else false)).bind fun b33=>
 (some (if b33 then r2.1.aaf==0 else false)).bind fun b34=>
 (gd (b34==true) (idx aiB.bk (1:Int))).bind fun e35=>
 (some (if b34 then(e35.Hand.length:Int)==6 else false)).bind fun b36=>
 (gd (b36==true) (idx aiB.bk (0:Int))).bind fun e37=>
 (some (if b36 then(e37.Hand.length:Int)==7 else false)).bind fun b38=>
 (some (if b38 then aiB.aaf==1 else false)).bind fun b39=>
 (some (if b39 then r16.2==1 else false)).bind fun b40=>
 (some (if b40 then r28.2==2 else false)).bind fun b41=>
 some b41
def Wc (ahF:(Aa)->Option (Bool)) (anw:Aa):Option (Bool):=
 ahF ({{{anw with aaf:=(1:Int)}with Step:=(0:Int)}with abI:=false})
def Wd (ab8:List (Bl)) (afg:Int) (anv:Aa) (aiY:Int) (agz:Aw) (ah2:Bool) (ajI:Bool):Option (((List (Bl))×Int×Aa×Int×Aw×Bool×Bool)⊕(Aa)):=
 some (.inl (ab8,(Ac (afg+1)),anv,aiY,agz,ah2,ajI))
def Ur (e70:Int) (afA:Int) (r96:Aa) (an4:List (Int)) (aeM:Int) (adj:Aw) (aee:Bool) (afK:Bool):Option ((Int×Aa×Int×Aw×Bool×Bool)⊕((Aa×Int×Aw×Bool×Bool)⊕(Aa×Int×Aw×Bool×Bool))):=
 (idx an4 (0:Int)).bind fun ajA=>
 (if ajA==0 then
  some (.inr (.inr (r96,aeM,adj,aee,afK)))
 else
  (EX r96 e70).bind fun awy=>
  some (.inl ((Ac (afA - 1)),awy,aeM,adj,aee,afK)))
def We (aat:List (List (Int))) (ab8:List (Bl)) (e70:Int) (afA:Int) (ajV:Aa) (X_:Int) (aaN:Aw) (aaP:Bool) (abr:Bool):Option ((Int×Aa×Int×Aw×Bool×Bool)⊕((Aa×Int×Aw×Bool×Bool)⊕(Aa×Int×Aw×Bool×Bool))):=
 (if decide (0<afA) then
  (IP ajV e70 afA).bind fun r96=>
  (D9 r96 (1:Int) e70).bind fun r97=>
  (if((r97.length:Int)==0) then
   some (.inr (.inr (r96,X_,aaN,aaP,abr)))
  else
   jn (fun(v:(List (Int))×Int×Aw×Bool×Bool)=>Ur e70 afA r96 v.1 v.2.1 v.2.2.1 v.2.2.2.1 v.2.2.2.2) (fun ale=>
   (some (if false then true else aaP)).bind fun azr=>
   (some (if azr then true else abr)).bind fun auy=>
   (gd (auy==false) (Nd (⟨11,e70,0,0,0,0,ab8⟩:Aw))).bind fun awx=>
   (some (if auy then true else awx)).bind fun tk=>
   (if tk then
    (DP (⟨11,e70,0,0,0,0,ab8⟩:Aw)).bind fun aww=>
    ale (aww,X_,aaN,aaP,abr)
   else if(X_==(aat.length:Int)) then
    (Bg ab8).bind fun asz=>
    (DP (⟨11,e70,0,0,0,0,asz⟩:Aw)).bind fun awv=>
    ale (awv,X_,(⟨11,e70,0,0,0,0,asz⟩:Aw),true,abr)
   else
    (idx aat X_).bind fun aGb=>
    (idx aat X_).bind fun auh=>
    (MA (⟨11,e70,0,0,0,0,ab8⟩:Aw) auh).bind fun awu=>
    (if !awu then
     (DP (⟨11,e70,0,0,0,0,ab8⟩:Aw)).bind fun awt=>
     ale (awt,(Ac (X_+1)),aaN,aaP,true)
    else
     (Cg auh).bind fun aws=>
     ale (aws,(Ac (X_+1)),aaN,aaP,abr)))))
 else
  some (.inr (.inl (ajV,X_,aaN,aaP,abr))))
def Wf (aat:List (List (Int))) (r45:(List (Int))) (ab8:List (Bl)) (afg:Int) (ajW:Aa) (aiZ:Int) (agA:Aw) (ah3:Bool) (ajJ:Bool):Option (((List (Bl))×Int×Aa×Int×Aw×Bool×Bool)⊕(Aa)):=
 (if(decide (afg<(r45.length:Int))) then
  jn (fun(v:Aa×Int×Aw×Bool×Bool)=>Wd ab8 afg v.1 v.2.1 v.2.2.1 v.2.2.2.1 v.2.2.2.2) (fun amR=>
  (idx r45 afg).bind fun e70=>
  (iter (fun(v:Int×Aa×Int×Aw×Bool×Bool)=>We aat ab8 e70 v.1 v.2.1 v.2.2.1 v.2.2.2.1 v.2.2.2.2.1 v.2.2.2.2.2) FU ((7:Int),ajW,aiZ,agA,ah3,ajJ)).bind (Sum.elim (fun o0=>amR (o0.1,o0.2.1,o0.2.2.1,o0.2.2.2.1,o0.2.2.2.2)) (fun o1=>amR (o1.1,o1.2.1,o1.2.2.1,o1.2.2.2.1,o1.2.2.2.2))))
 else
  some (.inr ajW))
def Wg (r2:Aa×Int) (ajH:Int) (ae3:Int) (aeg:Int) (aef:Int) (aeC:Int) (ae2:Int) (agy:Int) (ah4:Bool) (ajK:Bool) (aat:List (List (Int))):Option (Bool):=
 jn (fun(v:Aa)=>Wb r2 v) (fun ahF=>
 (Eb r2.1).bind fun r42=>
 jn (fun(v:Aa)=>Wc ahF v) (fun axa=>
 (IM (⟨r42.bk,r42.b_,r42.AT,r42.acv,r42.Stack,r42.aar,r42.ack,r42.aaf,r42.aaj,r42.Step,r42.abI,r42.Priority,r42.Passes,r42.g_,r42.l_,r42.ab2,r42.Extra,r42.ac9,r42.aaK⟩:Aa)).bind fun r45=>
 (iter (fun(v:(List (Bl))×Int×Aa×Int×Aw×Bool×Bool)=>Wf aat r45 v.1 v.2.1 v.2.2.1 v.2.2.2.1 v.2.2.2.2.1 v.2.2.2.2.2.1 v.2.2.2.2.2.2) FU (([(⟨10,0,0⟩:Bl),(⟨9,0,0⟩:Bl)]:List (Bl)),(0:Int),(⟨r42.bk,r42.b_,r42.AT,r42.acv,r42.Stack,r42.aar,r42.ack,r42.aaf,r42.aaj,r42.Step,r42.abI,r42.Priority,r42.Passes,r42.g_,r42.l_,r42.ab2,r42.Extra,r42.ac9,r42.aaK⟩:Aa),ajH,(⟨ae3,aeg,aef,aeC,ae2,agy,([]:List (Bl))⟩:Aw),ah4,ajK)).bind (fun o0=>axa o0)))
def Us (aex:(Int×Int×Int×Int×Int×Int×Int×Bool×Bool×(List (List (Int))))->Option (Bool)) (ah5:Int) (aei:Int) (adA:Int) (adz:Int) (adO:Int) (aeh:Int) (afI:Int) (ahp:Bool) (ai0:Bool) (aha:List (List (Int))):Option (Bool):=
 aex (ah5,aei,adA,adz,adO,aeh,afI,ahp,ai0,aha)
def Ut (afi:Int) (aeL:Int) (aci:Int) (abH:Int) (abG:Int) (abS:Int) (ach:Int) (ac2:Int) (aed:Bool) (afJ:Bool) (ad3:List (List (Int))):Option ((Int×Int×Int×Int×Int×Int×Int×Int×Bool×Bool×(List (List (Int))))⊕((Int×Int×Int×Int×Int×Int×Int×Bool×Bool×(List (List (Int)))))):=
 (if(decide (afi<(([([(1:Int)]:List (Int)),([(0:Int)]:List (Int)),([(0:Int)]:List (Int))]:List (List (Int))).length :Int))) then
  (idx ([([(1:Int)]:List (Int)),([(0:Int)]:List (Int)),([(0:Int)]:List (Int))]:List (List (Int))) afi).bind fun aF8=>
  (idx ([([(1:Int)]:List (Int)),([(0:Int)]:List (Int)),([(0:Int)]:List (Int))]:List (List (Int))) afi).bind fun aue=>
  (Cg aue).bind fun aqj=>
  (app 24 ad3 ([aqj]:List (List (Int)))).bind fun awZ=>
  some (.inl ((Ac (afi+1)),aeL,aci,abH,abG,abS,ach,ac2,aed,afJ,awZ))
 else
  some (.inr (aeL,aci,abH,abG,abS,ach,ac2,aed,afJ,ad3)))
def E3:Option (Bool):=
 (OF (9:Int) (5:Int)).bind fun r1=>
 (Ec r1).bind fun r2=>
 jn (fun(v:Int×Int×Int×Int×Int×Int×Int×Bool×Bool×(List (List (Int))))=>Wg r2 v.1 v.2.1 v.2.2.1 v.2.2.2.1 v.2.2.2.2.1 v.2.2.2.2.2.1 v.2.2.2.2.2.2.1 v.2.2.2.2.2.2.2.1 v.2.2.2.2.2.2.2.2.1 v.2.2.2.2.2.2.2.2.2) (fun aex=>
 jn (fun(v:Int×Int×Int×Int×Int×Int×Int×Bool×Bool×(List (List (Int))))=>Us aex v.1 v.2.1 v.2.2.1 v.2.2.2.1 v.2.2.2.2.1 v.2.2.2.2.2.1 v.2.2.2.2.2.2.1 v.2.2.2.2.2.2.2.1 v.2.2.2.2.2.2.2.2.1 v.2.2.2.2.2.2.2.2.2) (fun as5=>
 (iter (fun(v:Int×Int×Int×Int×Int×Int×Int×Int×Bool×Bool×(List (List (Int))))=>Ut v.1 v.2.1 v.2.2.1 v.2.2.2.1 v.2.2.2.2.1 v.2.2.2.2.2.1 v.2.2.2.2.2.2.1 v.2.2.2.2.2.2.2.1 v.2.2.2.2.2.2.2.2.1 v.2.2.2.2.2.2.2.2.2.1 v.2.2.2.2.2.2.2.2.2.2) FU ((0:Int),(0:Int),(0:Int),(0:Int),(0:Int),(0:Int),(0:Int),(0:Int),false,false,([]:List (List (Int))))).bind (fun o0=>as5 (o0.1,o0.2.1,o0.2.2.1,o0.2.2.2.1,o0.2.2.2.2.1,o0.2.2.2.2.2.1,o0.2.2.2.2.2.2.1,o0.2.2.2.2.2.2.2.1,o0.2.2.2.2.2.2.2.2.1,o0.2.2.2.2.2.2.2.2.2))))
def bc:Cj:=mC [ao,VE,Mv,Lt,PZ,P1,Lq,Sh,PW,GH,VC,MB] 7 Tryz.f7 (.s .n (.s .n (.s (.r [] [] (.t (.q 3 .bf (.j 4 ⟨[1,2,19],[(18, .c (.c (.ptr [7,18] (0))))],[[1]],[([7,18], .box [.c (.j_ [1000,7,18]),Bd,Bd,Bd,Bd,Bd,Bd,Bd, .c (.L_),GJ,GJ]),([1000,7,18], .row 31)]⟩ (.s (.r [] [] (.g 0 (.ug [1,2,18,19]) .n)) (.s (.r [] [([7,18],0,[1000,7,18],31)] .n) (.j ⟨[3],[],[[1]],[([7,18], .box [.c (.j_ [1000,7,18]),Bd,Bd,Bd,Bd,Bd,Bd,Bd, .c (.L_),GJ,GJ]),([1000,7,18], .row 31)]⟩ (.s .n (.l ⟨[3,8,9],[BS 10],[[1],[17]],[([7,18], .box [.c (.j_ [1000,7,18]),Bd,Bd,Bd,Bd,Bd,Bd,Bd, .c (.L_),GJ,GJ]),([1000,7,18], .row 31)]⟩ [(1,⟨[3],[],[[1]],[([7,18], .box [.c (.j_ [1000,7,18]),Bd,Bd,Bd,Bd,Bd,Bd,Bd, .c (.L_),GJ,GJ]),([1000,7,18], .row 31)]⟩)] (.s .n (.s .n (.s (.s .n (.r [] [] (.t (.q 4 .lz (.q 6 .co (.q 7 .bf .n)))))) .n))))) .n))) (.j 6 ⟨[1,2],[(20, .agg [.v (.s 36)])],[[1]],[]⟩ (.s (.r [] [] (.g 0 (.ug [1,2,20]) .n)) (.s (.r [] [] (.q 1 .co .n)) (.s .n (.s .n (.j ⟨[3,4],[],[[1],[4,20]],[([3,20], .box [.v (.s 36)])]⟩ (.s (.r [[3,0,11,20],[4,0,11,20],[16,0,11,20],[5,0,11,20],[2,0,11,20],[1,0,11,20]] [] (.g 0 (.fd [1000003,0,0,11,20]) .n)) (.l ⟨[0,3,4,16,17],[(5, .c (.v (.k (.t_ 82)))),BS 18],[[1],[4,20],[1000,7,18]],[([3,20], .box [.v (.s 36)]),([7,18], .box [.c (.j_ [1000,7,18]),Bd, .v (.s 54),GJ,GJ])]⟩ [(1,⟨[3,4],[],[[1],[4,20]],[([3,20], .box [.v (.s 36)])]⟩)] (.s .n (.s .n (.j ⟨[0,3,4,5,16,17,18],[],[[1],[4,20],[1000,7,18]],[([3,20], .box [.v (.s 36)]),([7,18], .box [.c (.j_ [1000,7,18]),Bd, .v (.s 54),GJ,GJ])]⟩ (.s .n (.s .n (.l ⟨[0,3,4,5,7,16,17,18],[BS 8],[[1],[4,20],[1000,7,18]],[([3,20], .box [.v (.s 36)]),([7,18], .box [.c (.j_ [1000,7,18]),Bd, .v (.s 54),GJ,GJ])]⟩ [(3,⟨[0,3,4,5,16,17,18],[],[[1],[4,20],[1000,7,18]],[([3,20], .box [.v (.s 36)]),([7,18], .box [.c (.j_ [1000,7,18]),Bd, .v (.s 54),GJ,GJ])]⟩),(2,⟨[0,3,4,5,16,17,18],[],[[1],[4,20],[1000,7,18]],[([3,20], .box [.v (.s 36)]),([7,18], .box [.c (.j_ [1000,7,18]),Bd, .v (.s 54),GJ,GJ])]⟩)] (.s .n (.s (.s .n (.s .n (.s (.r [] [] (.j 4 ⟨[0,3,4,5,7,8,16,17,18],[(39, .c (.v (.k (.t_ 3))))],[[1],[3,20],[4,20],[1000,7,18]],[([7,18], .box [.c (.j_ [1000,7,18]),Bd, .v (.s 54),GJ,GJ])]⟩ (.s (.r [] [] (.g 0 (.ug [0,3,4,5,7,8,16,17,18,39]) .n)) (.s .n (.s (.s .n (.i (.s (.r [] [] (.q 2 .co .n)) .n) .n)) (.s .n (.s .n (.s .n (.s (.r [] [] (.q 1 .co .n)) .n))))))) .n)) .n))) .n))))) .n))))) .n))))) .n))))) (.s .n (.s (.r [] [] (.q 0 .co .n)) (.s (.r [] [] (.q 3 .mld (.q 4 .mix (.q 5 .mst .n)))) (.s (.r [] [] (.g 0 (.fd [1000003,1,0,26]) .n)) .n))))))) [] [.k (.bool)] (fun x=>E3) Tryz.func7 (by kernel_rfl)
end Go.PL
