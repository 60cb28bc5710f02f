/- Functions of the program, as partial functions in Lean, with proofs. -/
import Derived.Test.YteginlijmbcopaaGreatDoorPlBlB
import Derived.Test.YteginlijmbcopaaGreatDoorPlBlF0
import Derived.Test.YteginlijmbcopaaGreatDoorPlBlF1
import Derived.Test.YteginlijmbcopaaGreatDoorPlBlF2
import Derived.Test.YteginlijmbcopaaGreatDoorPlBlF3
import Derived.Test.YteginlijmbcopaaGreatDoorPlBlF4
import Derived.Test.YteginlijmbcopaaGreatDoorPlBlF5
import Derived.Test.YteginlijmbcopaaGreatDoorPlBlF6
namespace Go.PL
open Go Go.RowKit Go.Proofs
set_option maxRecDepth 100000
set_option linter.all false
set_option maxHeartbeats 4000000
attribute [local irreducible] Aq Cr Cc
def Nh (aq7:List UInt8):Option ((List UInt8)):=
 some aq7
def Hv (a0:List (BB)) (ab3:Int) (apL:List UInt8):Option (((List UInt8)×Int)⊕((List UInt8)⊕(List UInt8))):=
 (idx a0 ab3).bind fun e18=>
 (SS e18).bind fun r19=>
 (cat apL r19).bind fun s20=>
 some (.inl (s20,(Ab (ab3+1))))
def L8 (a0:List (BB)) (ajk:List UInt8) (ab3:Int):Option (((List UInt8)×Int)⊕((List UInt8)⊕(List UInt8))):=
 (if(decide (ab3<(a0.length:Int))) then
  (idx a0 ab3).bind fun e13=>
  (Lh e13).bind fun r14=>
  (if !r14 then
   some (.inr (.inr ([]:List UInt8)))
  else
   jn (fun(v:(List UInt8))=>Hv a0 ab3 v) (fun atb=>
   (if decide (0<ab3) then
    (cat ajk fu).bind fun s22=>
    atb s22
   else
    atb ajk)))
 else
  some (.inr (.inl ajk)))
def Db (a0:List (BB)):Option ((List UInt8)):=
 (some (if((a0.length:Int)==0) then true else decide (6<(a0.length:Int)))).bind fun b1=>
 (if b1 then
  some ([]:List UInt8)
 else
  jn (fun(v:(List UInt8))=>Nh v) (fun jJ4=>
  (iter (fun(v:(List UInt8)×Int)=>L8 a0 v.1 v.2) FU (([]:List UInt8),(0:Int))).bind (Sum.elim (fun o0=>jJ4 o0) (fun o1=>some o1))))
def J5:A9:=mC [nK,ru] 97 Tryz.f97 (.s .n (.s .n (.s .n (.j ⟨[],[O4 3],[],[]⟩ (.s .n (.l ⟨[0],[O4 3,A0 4],[],[]⟩ [(1,⟨[],[O4 3],[],[]⟩),(0,⟨[],[O4 2],[],[]⟩)] (.s .n (.s (.s .n (.j ⟨[0,4],[O4 3],[],[]⟩ .n .n)) .n)))) .n)))) [.k (.u_ 148)] [.k (.str)] (fun x=>Db x.1) Tryz.func97 (by kernel_rfl)
def aH (a0:Bn) (b6:Bool) (aqW:Bool):Option (Bool):=
 (if aqW then
  (some (if b6 then decide (0<=a0.Who)else false)).bind fun b29=>
  (some (if b29 then decide (a0.Who<=2)else false)).bind fun b30=>
  (some (if b30 then a0.Filter==(⟨0,0,0,0,0,0,0,[],0,0,(⟨0,0⟩:As),(⟨0,0⟩:As),(⟨0,0⟩:As)⟩:Av)else false)).bind fun b31=>
  some b31
 else
  some false)
def jT (a0:Bn):Option (Bool):=
 (if a0.On==2 then
  (Pj a0).bind fun r2=>
  some r2
 else
  (Pc a0).bind fun r3=>
  (if !r3 then
   some false
  else
   (some (if a0.Do==3 then true else a0.Do==4)).bind fun b5=>
   (some (if b5 then true else a0.Do==8)).bind fun b6=>
   (if a0.On==1 then
    (some (if a0.Do != 1 then a0.Do != 2 else false)).bind fun b8=>
    (some (if b8 then a0.Do != 3 else false)).bind fun b9=>
    (some (if b9 then a0.Do != 4 else false)).bind fun b10=>
    (if b10 then
     some false
    else
     (gd ((a0.Who==0)==true) (Jc a0.Filter)).bind fun r12=>
     (some (if a0.Who==0 then r12 else false)).bind fun b13=>
     (some (if a0.Who==1 then true else a0.Who==2)).bind fun b14=>
     (some (if b14 then a0.Filter==(⟨0,0,0,0,0,0,0,[],0,0,(⟨0,0⟩:As),(⟨0,0⟩:As),(⟨0,0⟩:As)⟩:Av)else false)).bind fun b15=>
     (some (if b13 then true else b15)).bind fun b16=>
     some b16)
   else if a0.On==8 then
    (some (if b6 then a0.Who==0 else false)).bind fun b18=>
    (gd (b18==true) (Jc a0.Filter)).bind fun r19=>
    (some (if b18 then r19 else false)).bind fun b20=>
    some b20
   else if a0.On==3 then
    (some (if a0.Do==4 then true else a0.Do==8)).bind fun b22=>
    (some (if b22 then decide (0<=a0.Who)else false)).bind fun b23=>
    (some (if b23 then decide (a0.Who<=2)else false)).bind fun b24=>
    (some (if b24 then a0.Filter==(⟨0,0,0,0,0,0,0,[],0,0,(⟨0,0⟩:As),(⟨0,0⟩:As),(⟨0,0⟩:As)⟩:Av)else false)).bind fun b25=>
    some b25
   else
    jn (fun(v:Bool)=>aH a0 b6 v) (fun aob=>
    (if a0.On==4 then
     aob (a0.On==4)
    else if a0.On==5 then
     aob (a0.On==5)
    else
     aob (a0.On==10))))))
def yM:A9:=mC [nL,mZ,V0] 140 Tryz.f140 (.s .n (.s .n (.s .n (.s .n (.s .n (.s (.s .n (.s .n (.i .n (.s .n (.i .n (.s .n (.i .n (.j ⟨[1,3,4],[EO 109],[[1]],[]⟩ .n .n)))))))) .n)))))) [.s 119] [.k (.bool)] (fun x=>jT x.1) Tryz.func140 (by kernel_rfl)
def WN (r2:Aa×Int) (al0:Aa):Option (Bool):=
 (Pl (⟨([]:List (AN)),([]:List (List (Int))),0,0⟩:Di)).bind fun r16=>
 (Om (3:Int) (1:Int)).bind fun r17=>
 (idx r17.ach (1:Int)).bind fun e18=>
 (idx r17.ach (1:Int)).bind fun e19=>
 (A1 ((1:Int)<((r17.ach.length:Nat):Int))).bind fun u20=>
 (idx r17.ach (1:Int)).bind fun e21=>
 (A1 ((1:Int)<((r17.ach.length:Nat):Int))).bind fun u22=>
 (idx e21 (2:Int)).bind fun e23=>
 (idx r17.ach (1:Int)).bind fun e24=>
 (A1 ((1:Int)<((r17.ach.length:Nat):Int))).bind fun u25=>
 (idx e24 (2:Int)).bind fun e26=>
 (some (r17.ach.set ((1:Int)).toNat (e24.set ((2:Int)).toNat (1:Int)))).bind fun l27=>
 (Pl (⟨r17.alO,l27,r17.Tw,r17.anA⟩:Di)).bind fun r28=>
 (some (if r2.2==0 then(r2.1.b_.length:Int)==18 else false)).bind fun b29=>
 (some (if b29 then r2.1.f_==19 else false)).bind fun b30=>
 (some (if b30 then r2.1.k_==1 else false)).bind fun b31=>
 (gd (b31==true) (idx r2.1.a_ (0:Int))).bind fun e32=>
 (some (if b31 then(e32.g_.length:Int)==9 else false)).bind fun b33=>
 (some (if b33 then r2.1.I_==0 else false)).bind fun b34=>
 (gd (b34==true) (idx al0.a_ (1:Int))).bind fun e35=>
 (some (if b34 then(e35.Hand.length:Int)==6 else false)).bind fun b36=>
 (gd (b36==true) (idx al0.a_ (0:Int))).bind fun e37=>
 (some (if b36 then(e37.Hand.length:Int)==7 else false)).bind fun b38=>
 (some (if b38 then al0.I_==1 else false)).bind fun b39=>
 (some (if b39 then r16.2==1 else false)).bind fun b40=>
 (some (if b40 then r28.2==2 else false)).bind fun b41=>
 some b41
def WO (aeh:(Aa)->Option (Bool)) (asf:Aa):Option (Bool):=
 aeh ({{{asf with I_:=(1:Int)}with Step:=(0:Int)}with H_:=false})
def WP (acQ:List (Ak)) (agH:Int) (ase:Aa) (amr:Int) (aiR:Ac) (ak0:Bool) (am2:Bool):Option (((List (Ak))×Int×Aa×Int×Ac×Bool×Bool)⊕(Aa)):=
 some (.inl (acQ,(Ab (agH+1)),ase,amr,aiR,ak0,am2))
def UI (e70:Int) (ag1:Int) (r96:Aa) (asJ:List (Int)) (af9:Int) (ad7:Ac) (afe:Bool) (aha:Bool):Option ((Int×Aa×Int×Ac×Bool×Bool)⊕((Aa×Int×Ac×Bool×Bool)⊕(Aa×Int×Ac×Bool×Bool))):=
 (idx asJ (0:Int)).bind fun aEL=>
 (if aEL==0 then
  some (.inr (.inr (r96,af9,ad7,afe,aha)))
 else
  (EE r96 e70).bind fun avi=>
  some (.inl ((Ab (ag1 - 1)),avi,af9,ad7,afe,aha)))
def WQ (aaV:List (List (Int))) (acQ:List (Ak)) (e70:Int) (ag1:Int) (anv:Aa) (aaE:Int) (abn:Ac) (abr:Bool) (aca:Bool):Option ((Int×Aa×Int×Ac×Bool×Bool)⊕((Aa×Int×Ac×Bool×Bool)⊕(Aa×Int×Ac×Bool×Bool))):=
 (if decide (0<ag1) then
  (Ib anv e70 ag1).bind fun r96=>
  (DU r96 (1:Int) e70).bind fun r97=>
  (if((r97.length:Int)==0) then
   some (.inr (.inr (r96,aaE,abn,abr,aca)))
  else
   jn (fun(v:(List (Int))×Int×Ac×Bool×Bool)=>UI e70 ag1 r96 v.1 v.2.1 v.2.2.1 v.2.2.2.1 v.2.2.2.2) (fun apd=>
   (some (if false then true else abr)).bind fun awH=>
   (some (if awH then true else aca)).bind fun azY=>
   (gd (azY==false) (JV (⟨11,e70,0,0,0,0,acQ⟩:Ac))).bind fun aCh=>
   (some (if azY then true else aCh)).bind fun awG=>
   (if awG then
    (B2 (⟨11,e70,0,0,0,0,acQ⟩:Ac)).bind fun aCg=>
    apd (aCg,aaE,abn,abr,aca)
   else if(aaE==(aaV.length:Int)) then
    (AX acQ).bind fun apJ=>
    (B2 (⟨11,e70,0,0,0,0,apJ⟩:Ac)).bind fun aCf=>
    apd (aCf,aaE,(⟨11,e70,0,0,0,0,apJ⟩:Ac),true,aca)
   else
    (idx aaV aaE).bind fun aM4=>
    (idx aaV aaE).bind fun azI=>
    (Ga (⟨11,e70,0,0,0,0,acQ⟩:Ac) azI).bind fun aCd=>
    (if !aCd then
     (B2 (⟨11,e70,0,0,0,0,acQ⟩:Ac)).bind fun aCc=>
     apd (aCc,(Ab (aaE+1)),abn,abr,true)
    else
     (BQ azI).bind fun avh=>
     apd (avh,(Ab (aaE+1)),abn,abr,aca)))))
 else
  some (.inr (.inl (anv,aaE,abn,abr,aca))))
def WR (aaV:List (List (Int))) (r45:(List (Int))) (acQ:List (Ak)) (agH:Int) (anw:Aa) (ams:Int) (aiS:Ac) (ak1:Bool) (am3:Bool):Option (((List (Ak))×Int×Aa×Int×Ac×Bool×Bool)⊕(Aa)):=
 (if(decide (agH<(r45.length:Int))) then
  jn (fun(v:Aa×Int×Ac×Bool×Bool)=>WP acQ agH v.1 v.2.1 v.2.2.1 v.2.2.2.1 v.2.2.2.2) (fun aru=>
  (idx r45 agH).bind fun e70=>
  (iter (fun(v:Int×Aa×Int×Ac×Bool×Bool)=>WQ aaV acQ e70 v.1 v.2.1 v.2.2.1 v.2.2.2.1 v.2.2.2.2.1 v.2.2.2.2.2) FU ((7:Int),anw,ams,aiS,ak1,am3)).bind (Sum.elim (fun o0=>aru (o0.1,o0.2.1,o0.2.2.1,o0.2.2.2.1,o0.2.2.2.2)) (fun o1=>aru (o1.1,o1.2.1,o1.2.2.1,o1.2.2.2.1,o1.2.2.2.2))))
 else
  some (.inr anw))
def WS (r2:Aa×Int) (am1:Int) (agx:Int) (afg:Int) (aff:Int) (afZ:Int) (agw:Int) (aiQ:Int) (ak2:Bool) (am4:Bool) (aaV:List (List (Int))):Option (Bool):=
 jn (fun(v:Aa)=>WN r2 v) (fun aeh=>
 (F8 r2.1).bind fun r42=>
 jn (fun(v:Aa)=>WO aeh v) (fun as9=>
 (Ia (⟨r42.a_,r42.b_,r42.l_,r42.T_,r42.Stack,r42.o_,r42.v_,r42.I_,r42.k_,r42.Step,r42.H_,r42.Priority,r42.Passes,r42.f_,r42.c_,r42.Tw,r42.Extra,r42.aae,r42.z_⟩:Aa)).bind fun r45=>
 (iter (fun(v:(List (Ak))×Int×Aa×Int×Ac×Bool×Bool)=>WR aaV r45 v.1 v.2.1 v.2.2.1 v.2.2.2.1 v.2.2.2.2.1 v.2.2.2.2.2.1 v.2.2.2.2.2.2) FU (([(⟨10,0,0⟩:Ak),(⟨9,0,0⟩:Ak)]:List (Ak)),(0:Int),(⟨r42.a_,r42.b_,r42.l_,r42.T_,r42.Stack,r42.o_,r42.v_,r42.I_,r42.k_,r42.Step,r42.H_,r42.Priority,r42.Passes,r42.f_,r42.c_,r42.Tw,r42.Extra,r42.aae,r42.z_⟩:Aa),am1,(⟨agx,afg,aff,afZ,agw,aiQ,([]:List (Ak))⟩:Ac),ak2,am4)).bind (fun o0=>as9 o0)))
def UJ (arA:(Int×Int×Int×Int×Int×Int×Int×Bool×Bool×(List (List (Int))))->Option (Bool)) (ak3:Int) (afi:Int) (aeq:Int) (aep:Int) (aeF:Int) (afh:Int) (ag9:Int) (ajL:Bool) (amt:Bool) (aju:List (List (Int))):Option (Bool):=
 arA (ak3,afi,aeq,aep,aeF,afh,ag9,ajL,amt,aju)
def UK (agJ:Int) (af8:Int) (ac2:Int) (acu:Int) (acs:Int) (acA:Int) (ac1:Int) (adL:Int) (afd:Bool) (ag_:Bool) (aeX:List (List (Int))):Option ((Int×Int×Int×Int×Int×Int×Int×Int×Bool×Bool×(List (List (Int))))⊕((Int×Int×Int×Int×Int×Int×Int×Bool×Bool×(List (List (Int)))))):=
 (if(decide (agJ<(([([(1:Int)]:List (Int)),([(0:Int)]:List (Int)),([(0:Int)]:List (Int))]:List (List (Int))).length :Int))) then
  (idx ([([(1:Int)]:List (Int)),([(0:Int)]:List (Int)),([(0:Int)]:List (Int))]:List (List (Int))) agJ).bind fun aMY=>
  (idx ([([(1:Int)]:List (Int)),([(0:Int)]:List (Int)),([(0:Int)]:List (Int))]:List (List (Int))) agJ).bind fun azH=>
  (BQ azH).bind fun aB6=>
  (app 24 aeX ([aB6]:List (List (Int)))).bind fun aCR=>
  some (.inl ((Ab (agJ+1)),af8,ac2,acu,acs,acA,ac1,adL,afd,ag_,aCR))
 else
  some (.inr (af8,ac2,acu,acs,acA,ac1,adL,afd,ag_,aeX)))
def Bg:Option (Bool):=
 (Om (9:Int) (5:Int)).bind fun r1=>
 (Pl r1).bind fun r2=>
 jn (fun(v:Int×Int×Int×Int×Int×Int×Int×Bool×Bool×(List (List (Int))))=>WS r2 v.1 v.2.1 v.2.2.1 v.2.2.2.1 v.2.2.2.2.1 v.2.2.2.2.2.1 v.2.2.2.2.2.2.1 v.2.2.2.2.2.2.2.1 v.2.2.2.2.2.2.2.2.1 v.2.2.2.2.2.2.2.2.2) (fun arA=>
 jn (fun(v:Int×Int×Int×Int×Int×Int×Int×Bool×Bool×(List (List (Int))))=>UJ arA v.1 v.2.1 v.2.2.1 v.2.2.2.1 v.2.2.2.2.1 v.2.2.2.2.2.1 v.2.2.2.2.2.2.1 v.2.2.2.2.2.2.2.1 v.2.2.2.2.2.2.2.2.1 v.2.2.2.2.2.2.2.2.2) (fun ayy=>
 (iter (fun(v:Int×Int×Int×Int×Int×Int×Int×Int×Bool×Bool×(List (List (Int))))=>UK v.1 v.2.1 v.2.2.1 v.2.2.2.1 v.2.2.2.2.1 v.2.2.2.2.2.1 v.2.2.2.2.2.2.1 v.2.2.2.2.2.2.2.1 v.2.2.2.2.2.2.2.2.1 v.2.2.2.2.2.2.2.2.2.1 v.2.2.2.2.2.2.2.2.2.2) FU ((0:Int),(0:Int),(0:Int),(0:Int),(0:Int),(0:Int),(0:Int),(0:Int),false,false,([]:List (List (Int))))).bind (fun o0=>ayy (o0.1,o0.2.1,o0.2.2.1,o0.2.2.2.1,o0.2.2.2.2.1,o0.2.2.2.2.2.1,o0.2.2.2.2.2.2.1,o0.2.2.2.2.2.2.2.1,o0.2.2.2.2.2.2.2.2.1,o0.2.2.2.2.2.2.2.2.2))))
def cW:A9:=mC [ce,nN,LY,KG,P1,P4,KE,Sk,PW,F6,V2,L6] 7 Tryz.f7 (.s .n (.s .n (.s (.r [] [] (.t (.q 3 .bf (.j 4 ⟨[1,2,19],[(18, .c (.c (.ptr [7,18] (0))))],[[1]],[([7,18], .box [.c (.n_ [1000,7,18]),AD,AD,AD,AD,AD,AD,AD, .c (.Tv),B1,B1]),([1000,7,18], .row 31)]⟩ (.s (.r [] [] (.g 0 (.ug [1,2,18,19]) .n)) (.s (.r [] [([7,18],0,[1000,7,18],31)] .n) (.j ⟨[3],[],[[1]],[([7,18], .box [.c (.n_ [1000,7,18]),AD,AD,AD,AD,AD,AD,AD, .c (.Tv),B1,B1]),([1000,7,18], .row 31)]⟩ (.s .n (.l ⟨[3,8,9],[A0 10],[[1],[17]],[([7,18], .box [.c (.n_ [1000,7,18]),AD,AD,AD,AD,AD,AD,AD, .c (.Tv),B1,B1]),([1000,7,18], .row 31)]⟩ [(1,⟨[3],[],[[1]],[([7,18], .box [.c (.n_ [1000,7,18]),AD,AD,AD,AD,AD,AD,AD, .c (.Tv),B1,B1]),([1000,7,18], .row 31)]⟩)] (.s .n (.s .n (.s (.s .n (.r [] [] (.t (.q 4 .lz (.q 6 .co (.q 7 .bf .n)))))) .n))))) .n))) (.j 6 ⟨[1,2],[(20, .agg [.v (.s 36)])],[[1]],[]⟩ (.s (.r [] [] (.g 0 (.ug [1,2,20]) .n)) (.s (.r [] [] (.q 1 .co .n)) (.s .n (.s .n (.j ⟨[3,4],[],[[1],[4,20]],[([3,20], .box [.v (.s 36)])]⟩ (.s (.r [[3,0,11,20],[4,0,11,20],[16,0,11,20],[5,0,11,20],[2,0,11,20],[1,0,11,20]] [] (.g 0 (.fd [1000003,0,0,11,20]) .n)) (.l ⟨[0,3,4,16,17],[(5, .c (.v (.k (.u_ 82)))),A0 18],[[1],[4,20],[1000,7,18]],[([3,20], .box [.v (.s 36)]),([7,18], .box [.c (.n_ [1000,7,18]),AD, .v (.s 54),B1,B1])]⟩ [(1,⟨[3,4],[],[[1],[4,20]],[([3,20], .box [.v (.s 36)])]⟩)] (.s .n (.s .n (.j ⟨[0,3,4,5,16,17,18],[],[[1],[4,20],[1000,7,18]],[([3,20], .box [.v (.s 36)]),([7,18], .box [.c (.n_ [1000,7,18]),AD, .v (.s 54),B1,B1])]⟩ (.s .n (.s .n (.l ⟨[0,3,4,5,7,16,17,18],[A0 8],[[1],[4,20],[1000,7,18]],[([3,20], .box [.v (.s 36)]),([7,18], .box [.c (.n_ [1000,7,18]),AD, .v (.s 54),B1,B1])]⟩ [(3,⟨[0,3,4,5,16,17,18],[],[[1],[4,20],[1000,7,18]],[([3,20], .box [.v (.s 36)]),([7,18], .box [.c (.n_ [1000,7,18]),AD, .v (.s 54),B1,B1])]⟩),(2,⟨[0,3,4,5,16,17,18],[],[[1],[4,20],[1000,7,18]],[([3,20], .box [.v (.s 36)]),([7,18], .box [.c (.n_ [1000,7,18]),AD, .v (.s 54),B1,B1])]⟩)] (.s .n (.s (.s .n (.s .n (.s (.r [] [] (.j 4 ⟨[0,3,4,5,7,8,16,17,18],[(39, .c (.v (.k (.u_ 3))))],[[1],[3,20],[4,20],[1000,7,18]],[([7,18], .box [.c (.n_ [1000,7,18]),AD, .v (.s 54),B1,B1])]⟩ (.s (.r [] [] (.g 0 (.ug [0,3,4,5,7,8,16,17,18,39]) .n)) (.s .n (.s .n (.s .n (.s .n (.s .n (.s (.r [] [] (.q 1 .co .n)) .n))))))) .n)) .n))) .n))))) .n))))) .n))))) .n))))) (.s .n (.s (.r [] [] (.q 0 .co .n)) (.s (.r [] [] (.q 3 .mld (.q 4 .mix (.q 5 .mst .n)))) (.s (.r [] [] (.g 0 (.fd [1000003,1,0,26]) .n)) .n))))))) [] [.k (.bool)] (fun x=>Bg) Tryz.func7 (by kernel_rfl)
def Co (a0:Aa) (a1:Aa):Option (Bool):=
 (some (if a0.I_ != a1.I_ then true else a0.k_ != a1.k_)).bind fun b1=>
 (some (if b1 then true else a0.Step != a1.Step)).bind fun b2=>
 (some (if b2 then true else a0.H_ != a1.H_)).bind fun b3=>
 (some (if b3 then true else a0.Priority != a1.Priority)).bind fun b4=>
 (some (if b4 then true else a0.Passes != a1.Passes)).bind fun b5=>
 (some (if b5 then true else a0.f_ != a1.f_)).bind fun b6=>
 (some (if b6 then true else a0.c_ != a1.c_)).bind fun b7=>
 (some (if b7 then true else a0.Tw != a1.Tw)).bind fun b8=>
 (some (if b8 then true else a0.aae != a1.aae)).bind fun b9=>
 (some (if b9 then true else a0.z_ != a1.z_)).bind fun b10=>
 (if b10 then
  some false
 else
  (Pm a0 a1).bind fun r12=>
  (gd (r12==true) (Fn a0.l_ a1.l_)).bind fun r13=>
  (some (if r12 then r13 else false)).bind fun b14=>
  (gd (b14==true) (Fn a0.T_ a1.T_)).bind fun r15=>
  (some (if b14 then r15 else false)).bind fun b16=>
  (gd (b16==true) (Fn a0.Extra a1.Extra)).bind fun r17=>
  (some (if b16 then r17 else false)).bind fun b18=>
  some b18)
def rz:A9:=mC [nP,QT] 10 Tryz.f10 .n [.s 36, .s 36] [.k (.bool)] (fun x=>Co x.1 x.2.1) Tryz.func10 (by kernel_rfl)
end Go.PL
