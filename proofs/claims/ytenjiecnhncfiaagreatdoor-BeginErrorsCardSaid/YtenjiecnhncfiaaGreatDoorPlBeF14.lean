/- Functions of the program, as partial functions in Lean, with proofs. -/
import Derived.Test.YtenjiecnhncfiaaGreatDoorPlBeB
import Derived.Test.YtenjiecnhncfiaaGreatDoorPlBeF0
import Derived.Test.YtenjiecnhncfiaaGreatDoorPlBeF1
import Derived.Test.YtenjiecnhncfiaaGreatDoorPlBeF13
import Derived.Test.YtenjiecnhncfiaaGreatDoorPlBeF2
import Derived.Test.YtenjiecnhncfiaaGreatDoorPlBeF3
import Derived.Test.YtenjiecnhncfiaaGreatDoorPlBeF4
import Derived.Test.YtenjiecnhncfiaaGreatDoorPlBeF5
namespace Go.PL
open Go Go.RowKit Go.Proofs
set_option maxRecDepth 100000
set_option linter.all false
set_option maxHeartbeats 4000000
attribute [local irreducible] Ag Cv Co
def X0 (r2:Ao×Int) (aie:Ao):Option (Bool):=
 (HM (⟨([]:List (AO)),([]:List (List (Int))),0,0⟩:AH)).bind fun r16=>
 (Pc (3:Int) (1:Int)).bind fun r17=>
 (idx r17.l_ (1:Int)).bind fun e18=>
 (idx r17.l_ (1:Int)).bind fun e19=>
 (n_ ((1:Int)<((r17.l_.length:Nat):Int))).bind fun u20=>
 (idx r17.l_ (1:Int)).bind fun e21=>
 (n_ ((1:Int)<((r17.l_.length:Nat):Int))).bind fun u22=>
 (idx e21 (2:Int)).bind fun e23=>
 (idx r17.l_ (1:Int)).bind fun e24=>
 (n_ ((1:Int)<((r17.l_.length:Nat):Int))).bind fun u25=>
 (idx e24 (2:Int)).bind fun e26=>
 (some (r17.l_.set ((1:Int)).toNat (e24.set ((2:Int)).toNat (1:Int)))).bind fun l27=>
 (HM (⟨r17.aak,l27,r17.adH,r17.aaO⟩:AH)).bind fun r28=>
 (some (if r2.2==0 then(r2.1.j_.length:Int)==18 else false)).bind fun b29=>
 (some (if b29 then r2.1.acJ==19 else false)).bind fun b30=>
 (some (if b30 then r2.1.abK==1 else false)).bind fun b31=>
 (gd (b31==true) (idx r2.1.m_ (0:Int))).bind fun e32=>
 (some (if b31 then(e32.aap.length:Int)==9 else false)).bind fun b33=>
 (some (if b33 then r2.1.abb==0 else false)).bind fun b34=>
 (gd (b34==true) (idx aie.m_ (1:Int))).bind fun e35=>
 (some (if b34 then(e35.Hand.length:Int)==6 else false)).bind fun b36=>
 (gd (b36==true) (idx aie.m_ (0:Int))).bind fun e37=>
 (some (if b36 then(e37.Hand.length:Int)==7 else false)).bind fun b38=>
 (some (if b38 then aie.abb==1 else false)).bind fun b39=>
 (some (if b39 then r16.2==1 else false)).bind fun b40=>
 (some (if b40 then r28.2==2 else false)).bind fun b41=>
 some b41
def X1 (adl:(Ao)->Option (Bool)) (anp:Ao):Option (Bool):=
 adl ({{{anp with abb:=(1:Int)}with Step:=(0:Int)}with aeg:=false})
def X2 (aco:List (D8)) (afe:Int) (ano:Ao) (aiz:Int) (aeD:Int) (adE:Int) (adC:Int) (ad_:Int) (aeA:Int) (af0:Int) (ahI:Bool) (ajg:Bool):Option (((List (D8))×Int×Ao×Int×Int×Int×Int×Int×Int×Int×Bool×Bool)⊕(Ao)):=
 some (.inl (aco,(Ad (afe+1)),ano,aiz,aeD,adE,adC,ad_,aeA,af0,ahI,ajg))
def V3 (e85:Int) (afz:Int) (alp:Ao) (amm:List (Int)) (aeJ:Int) (ace:Int) (abI:Int) (abG:Int) (abV:Int) (acb:Int) (acS:Int) (ad6:Bool) (afE:Bool):Option ((Int×Ao×Int×Int×Int×Int×Int×Int×Int×Bool×Bool)⊕((Ao×Int×Int×Int×Int×Int×Int×Int×Bool×Bool)⊕(Ao×Int×Int×Int×Int×Int×Int×Int×Bool×Bool))):=
 (idx amm (0:Int)).bind fun ayl=>
 (if ayl==0 then
  some (.inr (.inr (alp,aeJ,ace,abI,abG,abV,acb,acS,ad6,afE)))
 else
  (Pw alp e85).bind fun av_=>
  some (.inl ((Ad (afz - 1)),av_,aeJ,ace,abI,abG,abV,acb,acS,ad6,afE)))
def V4 (aay:List (List (Int))) (aco:List (D8)) (e85:Int) (afz:Int) (ajt:Ao) (aag:Int) (Tw:Int) (Ta:Int) (S_:Int) (Tk:Int) (Tv:Int) (aau:Int) (aaD:Bool) (abJ:Bool):Option ((Int×Ao×Int×Int×Int×Int×Int×Int×Int×Bool×Bool)⊕((Ao×Int×Int×Int×Int×Int×Int×Int×Bool×Bool)⊕(Ao×Int×Int×Int×Int×Int×Int×Int×Bool×Bool))):=
 (if decide (0<afz) then
  (Xl ajt e85 afz).bind fun alp=>
  (Mu alp (1:Int) e85).bind fun awa=>
  (if((awa.length:Int)==0) then
   some (.inr (.inr (alp,aag,Tw,Ta,S_,Tk,Tv,aau,aaD,abJ)))
  else
   jn (fun(v:(List (Int))×Int×Int×Int×Int×Int×Int×Int×Bool×Bool)=>V3 e85 afz alp v.1 v.2.1 v.2.2.1 v.2.2.2.1 v.2.2.2.2.1 v.2.2.2.2.2.1 v.2.2.2.2.2.2.1 v.2.2.2.2.2.2.2.1 v.2.2.2.2.2.2.2.2.1 v.2.2.2.2.2.2.2.2.2) (fun amU=>
   (some (if false then true else aaD)).bind fun ayV=>
   (some (if ayV then true else abJ)).bind fun aui=>
   (gd (aui==false) (bw (⟨11,e85,0,0,0,0,aco⟩:Cc))).bind fun av8=>
   (some (if aui then true else av8)).bind fun ayU=>
   (if ayU then
    (Pk (⟨11,e85,0,0,0,0,aco⟩:Cc)).bind fun av7=>
    amU (av7,aag,Tw,Ta,S_,Tk,Tv,aau,aaD,abJ)
   else
    (if(aag==(aay.length:Int)) then
     none
    else
     (idx aay aag).bind fun aFz=>
     (idx aay aag).bind fun at5=>
     (gX (⟨11,e85,0,0,0,0,aco⟩:Cc) at5).bind fun av6=>
     (if !av6 then
      (Pk (⟨11,e85,0,0,0,0,aco⟩:Cc)).bind fun av5=>
      amU (av5,(Ad (aag+1)),Tw,Ta,S_,Tk,Tv,aau,aaD,true)
     else
      (Ex at5).bind fun av4=>
      amU (av4,(Ad (aag+1)),Tw,Ta,S_,Tk,Tv,aau,aaD,abJ))))))
 else
  some (.inr (.inl (ajt,aag,Tw,Ta,S_,Tk,Tv,aau,aaD,abJ))))
def X3 (aay:List (List (Int))) (r45:(List (Int))) (aco:List (D8)) (afe:Int) (aju:Ao) (aiA:Int) (aeE:Int) (adF:Int) (adD:Int) (aea:Int) (aeB:Int) (af1:Int) (ahJ:Bool) (ajh:Bool):Option (((List (D8))×Int×Ao×Int×Int×Int×Int×Int×Int×Int×Bool×Bool)⊕(Ao)):=
 (if(decide (afe<(r45.length:Int))) then
  jn (fun(v:Ao×Int×Int×Int×Int×Int×Int×Int×Bool×Bool)=>X2 aco afe v.1 v.2.1 v.2.2.1 v.2.2.2.1 v.2.2.2.2.1 v.2.2.2.2.2.1 v.2.2.2.2.2.2.1 v.2.2.2.2.2.2.2.1 v.2.2.2.2.2.2.2.2.1 v.2.2.2.2.2.2.2.2.2) (fun asW=>
  (idx r45 afe).bind fun e85=>
  (iter (fun(v:Int×Ao×Int×Int×Int×Int×Int×Int×Int×Bool×Bool)=>V4 aay aco e85 v.1 v.2.1 v.2.2.1 v.2.2.2.1 v.2.2.2.2.1 v.2.2.2.2.2.1 v.2.2.2.2.2.2.1 v.2.2.2.2.2.2.2.1 v.2.2.2.2.2.2.2.2.1 v.2.2.2.2.2.2.2.2.2.1 v.2.2.2.2.2.2.2.2.2.2) FU ((7:Int),aju,aiA,aeE,adF,adD,aea,aeB,af1,ahJ,ajh)).bind (Sum.elim (fun o0=>asW (o0.1,o0.2.1,o0.2.2.1,o0.2.2.2.1,o0.2.2.2.2.1,o0.2.2.2.2.2.1,o0.2.2.2.2.2.2.1,o0.2.2.2.2.2.2.2.1,o0.2.2.2.2.2.2.2.2.1,o0.2.2.2.2.2.2.2.2.2)) (fun o1=>asW (o1.1,o1.2.1,o1.2.2.1,o1.2.2.2.1,o1.2.2.2.2.1,o1.2.2.2.2.2.1,o1.2.2.2.2.2.2.1,o1.2.2.2.2.2.2.2.1,o1.2.2.2.2.2.2.2.2.1,o1.2.2.2.2.2.2.2.2.2))))
 else
  some (.inr aju))
def X4 (r2:Ao×Int) (ajf:Int) (ae1:Int) (ad8:Int) (ad7:Int) (aeC:Int) (ae0:Int) (agt:Int) (ahK:Bool) (aji:Bool) (aay:List (List (Int))):Option (Bool):=
 jn (fun(v:Ao)=>X0 r2 v) (fun adl=>
 (Qf r2.1).bind fun r42=>
 jn (fun(v:Ao)=>X1 adl v) (fun awT=>
 (Xj (⟨r42.m_,r42.j_,r42.aaP,r42.agm,r42.Stack,r42.acU,r42.agn,r42.abb,r42.abK,r42.Step,r42.aeg,r42.Priority,r42.Passes,r42.acJ,r42.aaW,r42.adH,r42.Extra,r42.ahQ,r42.acZ⟩:Ao)).bind fun r45=>
 (iter (fun(v:(List (D8))×Int×Ao×Int×Int×Int×Int×Int×Int×Int×Bool×Bool)=>X3 aay r45 v.1 v.2.1 v.2.2.1 v.2.2.2.1 v.2.2.2.2.1 v.2.2.2.2.2.1 v.2.2.2.2.2.2.1 v.2.2.2.2.2.2.2.1 v.2.2.2.2.2.2.2.2.1 v.2.2.2.2.2.2.2.2.2.1 v.2.2.2.2.2.2.2.2.2.2.1 v.2.2.2.2.2.2.2.2.2.2.2) FU (([(⟨10,0,0⟩:D8),(⟨9,0,0⟩:D8)]:List (D8)),(0:Int),(⟨r42.m_,r42.j_,r42.aaP,r42.agm,r42.Stack,r42.acU,r42.agn,r42.abb,r42.abK,r42.Step,r42.aeg,r42.Priority,r42.Passes,r42.acJ,r42.aaW,r42.adH,r42.Extra,r42.ahQ,r42.acZ⟩:Ao),ajf,ae1,ad8,ad7,aeC,ae0,agt,ahK,aji)).bind (fun o0=>awT o0)))
def V5 (aez:(Int×Int×Int×Int×Int×Int×Int×Bool×Bool×(List (List (Int))))->Option (Bool)) (ahL:Int) (aeb:Int) (adt:Int) (ads:Int) (adG:Int) (ad9:Int) (afC:Int) (ahd:Bool) (aiB:Bool) (ag1:List (List (Int))):Option (Bool):=
 aez (ahL,aeb,adt,ads,adG,ad9,afC,ahd,aiB,ag1)
def V6 (aff:Int) (aeI:Int) (acd:Int) (abH:Int) (abF:Int) (abU:Int) (aca:Int) (acR:Int) (ad5:Bool) (afD:Bool) (adU:List (List (Int))):Option ((Int×Int×Int×Int×Int×Int×Int×Int×Bool×Bool×(List (List (Int))))⊕((Int×Int×Int×Int×Int×Int×Int×Bool×Bool×(List (List (Int)))))):=
 (if(decide (aff<(([([(1:Int)]:List (Int)),([(0:Int)]:List (Int)),([(0:Int)]:List (Int))]:List (List (Int))).length :Int))) then
  (idx ([([(1:Int)]:List (Int)),([(0:Int)]:List (Int)),([(0:Int)]:List (Int))]:List (List (Int))) aff).bind fun aFu=>
  (idx ([([(1:Int)]:List (Int)),([(0:Int)]:List (Int)),([(0:Int)]:List (Int))]:List (List (Int))) aff).bind fun ayb=>
  (Ex ayb).bind fun avY=>
  (app 24 adU ([avY]:List (List (Int)))).bind fun aiW=>
  some (.inl ((Ad (aff+1)),aeI,acd,abH,abF,abU,aca,acR,ad5,afD,aiW))
 else
  some (.inr (aeI,acd,abH,abF,abU,aca,acR,ad5,afD,adU)))
def IB:Option (Bool):=
 (Pc (9:Int) (5:Int)).bind fun r1=>
 (HM r1).bind fun r2=>
 jn (fun(v:Int×Int×Int×Int×Int×Int×Int×Bool×Bool×(List (List (Int))))=>X4 r2 v.1 v.2.1 v.2.2.1 v.2.2.2.1 v.2.2.2.2.1 v.2.2.2.2.2.1 v.2.2.2.2.2.2.1 v.2.2.2.2.2.2.2.1 v.2.2.2.2.2.2.2.2.1 v.2.2.2.2.2.2.2.2.2) (fun aez=>
 jn (fun(v:Int×Int×Int×Int×Int×Int×Int×Bool×Bool×(List (List (Int))))=>V5 aez v.1 v.2.1 v.2.2.1 v.2.2.2.1 v.2.2.2.2.1 v.2.2.2.2.2.1 v.2.2.2.2.2.2.1 v.2.2.2.2.2.2.2.1 v.2.2.2.2.2.2.2.2.1 v.2.2.2.2.2.2.2.2.2) (fun amT=>
 (iter (fun(v:Int×Int×Int×Int×Int×Int×Int×Int×Bool×Bool×(List (List (Int))))=>V6 v.1 v.2.1 v.2.2.1 v.2.2.2.1 v.2.2.2.2.1 v.2.2.2.2.2.1 v.2.2.2.2.2.2.1 v.2.2.2.2.2.2.2.1 v.2.2.2.2.2.2.2.2.1 v.2.2.2.2.2.2.2.2.2.1 v.2.2.2.2.2.2.2.2.2.2) FU ((0:Int),(0:Int),(0:Int),(0:Int),(0:Int),(0:Int),(0:Int),(0:Int),false,false,([]:List (List (Int))))).bind (fun o0=>amT (o0.1,o0.2.1,o0.2.2.1,o0.2.2.2.1,o0.2.2.2.2.1,o0.2.2.2.2.2.1,o0.2.2.2.2.2.2.1,o0.2.2.2.2.2.2.2.1,o0.2.2.2.2.2.2.2.2.1,o0.2.2.2.2.2.2.2.2.2))))
def eK:CE TE Tryz.prog I0:=AA [dE,Xp,VE,Po,ek,eC,Pj,jU,dU,nK,VY] Aa Ac 9 6 Tryz.f6 (Tryz.f6.body.getD .skip) (.s .n (.s .n (.s (.r [] [] (.t (.q 3 .bf (.j 4 ⟨[1,2,19],[(18, .c (.c (.ptr [7,18] (0))))],[[1]],[([7,18], .box [.c (.h_ [1000,7,18]), .v (.k (.int .i64)), .v (.k (.int .i64)), .v (.k (.int .i64)), .v (.k (.int .i64)), .v (.k (.int .i64)), .v (.k (.int .i64)), .v (.k (.int .i64)), .c (.L_), .v (.k (.bool)), .v (.k (.bool))]),([1000,7,18], .row 31)]⟩ (.s (.r [] [] (.g 0 (.ug [1,2,18,19]) .n)) (.s (.r [] [([7,18],0,[1000,7,18],31)] .n) (.j ⟨[3],[],[[1]],[([7,18], .box [.c (.h_ [1000,7,18]), .v (.k (.int .i64)), .v (.k (.int .i64)), .v (.k (.int .i64)), .v (.k (.int .i64)), .v (.k (.int .i64)), .v (.k (.int .i64)), .v (.k (.int .i64)), .c (.L_), .v (.k (.bool)), .v (.k (.bool))]),([1000,7,18], .row 31)]⟩ (.s .n (.l ⟨[3,8,9],[(10, .c (.v (.k (.int .i64))))],[[1],[17]],[([7,18], .box [.c (.h_ [1000,7,18]), .v (.k (.int .i64)), .v (.k (.int .i64)), .v (.k (.int .i64)), .v (.k (.int .i64)), .v (.k (.int .i64)), .v (.k (.int .i64)), .v (.k (.int .i64)), .c (.L_), .v (.k (.bool)), .v (.k (.bool))]),([1000,7,18], .row 31)]⟩ [(1,⟨[3],[],[[1]],[([7,18], .box [.c (.h_ [1000,7,18]), .v (.k (.int .i64)), .v (.k (.int .i64)), .v (.k (.int .i64)), .v (.k (.int .i64)), .v (.k (.int .i64)), .v (.k (.int .i64)), .v (.k (.int .i64)), .c (.L_), .v (.k (.bool)), .v (.k (.bool))]),([1000,7,18], .row 31)]⟩)] (.s .n (.s .n (.s (.s .n (.r [] [] (.t (.q 4 .lz (.q 6 .co (.q 7 .bf .n)))))) .n))))) .n))) (.j 6 ⟨[1,2],[(20, .agg [.v (.s 36)])],[[1]],[]⟩ (.s (.r [] [] (.g 0 (.ug [1,2,20]) .n)) (.s (.r [] [] (.q 1 .co .n)) (.s .n (.s .n (.j ⟨[3,4],[],[[1],[4,20]],[([3,20], .box [.v (.s 36)])]⟩ (.s (.r [[3,0,11,20],[4,0,11,20],[16,0,11,20],[5,0,11,20],[2,0,11,20],[1,0,11,20]] [] (.g 0 (.fd [1000003,0,0,11,20]) .n)) (.l ⟨[0,3,4,16,17],[(5, .c (.v (.k (.u_ 74)))),(18, .c (.v (.k (.int .i64))))],[[1],[4,20],[1000,7,18]],[([3,20], .box [.v (.s 36)]),([7,18], .box [.c (.h_ [1000,7,18]), .v (.k (.int .i64)), .v (.k (.int .i64)), .v (.k (.int .i64)), .v (.k (.int .i64)), .v (.k (.int .i64)), .v (.k (.int .i64)), .v (.k (.int .i64)), .c (.L_), .v (.k (.bool)), .v (.k (.bool))])]⟩ [(1,⟨[3,4],[],[[1],[4,20]],[([3,20], .box [.v (.s 36)])]⟩)] (.s .n (.s .n (.j ⟨[0,3,4,5,16,17,18],[],[[1],[4,20],[1000,7,18]],[([3,20], .box [.v (.s 36)]),([7,18], .box [.c (.h_ [1000,7,18]), .v (.k (.int .i64)), .v (.k (.int .i64)), .v (.k (.int .i64)), .v (.k (.int .i64)), .v (.k (.int .i64)), .v (.k (.int .i64)), .v (.k (.int .i64)), .c (.L_), .v (.k (.bool)), .v (.k (.bool))])]⟩ (.s .n (.s .n (.l ⟨[0,3,4,5,7,16,17,18],[(8, .c (.v (.k (.int .i64))))],[[1],[4,20],[1000,7,18]],[([3,20], .box [.v (.s 36)]),([7,18], .box [.c (.h_ [1000,7,18]), .v (.k (.int .i64)), .v (.k (.int .i64)), .v (.k (.int .i64)), .v (.k (.int .i64)), .v (.k (.int .i64)), .v (.k (.int .i64)), .v (.k (.int .i64)), .c (.L_), .v (.k (.bool)), .v (.k (.bool))])]⟩ [(3,⟨[0,3,4,5,16,17,18],[],[[1],[4,20],[1000,7,18]],[([3,20], .box [.v (.s 36)]),([7,18], .box [.c (.h_ [1000,7,18]), .v (.k (.int .i64)), .v (.k (.int .i64)), .v (.k (.int .i64)), .v (.k (.int .i64)), .v (.k (.int .i64)), .v (.k (.int .i64)), .v (.k (.int .i64)), .c (.L_), .v (.k (.bool)), .v (.k (.bool))])]⟩),(2,⟨[0,3,4,5,16,17,18],[],[[1],[4,20],[1000,7,18]],[([3,20], .box [.v (.s 36)]),([7,18], .box [.c (.h_ [1000,7,18]), .v (.k (.int .i64)), .v (.k (.int .i64)), .v (.k (.int .i64)), .v (.k (.int .i64)), .v (.k (.int .i64)), .v (.k (.int .i64)), .v (.k (.int .i64)), .c (.L_), .v (.k (.bool)), .v (.k (.bool))])]⟩)] (.s .n (.s (.s .n (.s .n (.s (.r [] [] (.j 4 ⟨[0,3,4,5,7,8,16,17,18],[(39, .c (.v (.k (.u_ 3))))],[[1],[3,20],[4,20],[1000,7,18]],[([7,18], .box [.c (.h_ [1000,7,18]), .v (.k (.int .i64)), .v (.k (.int .i64)), .v (.k (.int .i64)), .v (.k (.int .i64)), .v (.k (.int .i64)), .v (.k (.int .i64)), .v (.k (.int .i64)), .c (.L_), .v (.k (.bool)), .v (.k (.bool))])]⟩ (.s (.r [] [] (.g 0 (.ug [0,3,4,5,7,8,16,17,18,39]) .n)) (.s .n (.s (.s .n (.i .x .n)) (.s .n (.s .n (.s .n (.s (.r [] [] (.q 1 .co .n)) .n))))))) .n)) .n))) .n))))) .n))))) .n))))) .n))))) (.s .n (.s (.r [] [] (.q 0 .co .n)) (.s (.r [] [] (.q 3 .mld (.q 4 .mix (.q 5 .mst .n)))) (.s (.r [] [] (.g 0 (.fd [1000003,1,0,26]) .n)) .n))))))) [] [.k (.bool)] (fun x=>IB) Tryz.func6 rfl (by kernel_rfl)
end Go.PL
