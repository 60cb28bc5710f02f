/- Functions of the program, as partial functions in Lean, with proofs. -/
import Derived.Test.YteginlijmbcopaaGreatDoorPlBdB
import Derived.Test.YteginlijmbcopaaGreatDoorPlBdF0
import Derived.Test.YteginlijmbcopaaGreatDoorPlBdF1
import Derived.Test.YteginlijmbcopaaGreatDoorPlBdF13
import Derived.Test.YteginlijmbcopaaGreatDoorPlBdF2
import Derived.Test.YteginlijmbcopaaGreatDoorPlBdF3
import Derived.Test.YteginlijmbcopaaGreatDoorPlBdF4
import Derived.Test.YteginlijmbcopaaGreatDoorPlBdF5
namespace Go.PL
open Go Go.RowKit Go.Proofs
set_option maxRecDepth 100000
set_option linter.all false
set_option maxHeartbeats 4000000
attribute [local irreducible] Ae Cq Cl
def Yj (r2:Ai×Int) (ajq:Ai):Option (Bool):=
 (Dz (⟨([]:List (AO)),([]:List (List (Int))),0,0⟩:AA)).bind fun r16=>
 (Po (3:Int) (1:Int)).bind fun r17=>
 (idx r17.i_ (1:Int)).bind fun e18=>
 (idx r17.i_ (1:Int)).bind fun e19=>
 (k_ ((1:Int)<((r17.i_.length:Nat):Int))).bind fun u20=>
 (idx r17.i_ (1:Int)).bind fun e21=>
 (k_ ((1:Int)<((r17.i_.length:Nat):Int))).bind fun u22=>
 (idx e21 (2:Int)).bind fun e23=>
 (idx r17.i_ (1:Int)).bind fun e24=>
 (k_ ((1:Int)<((r17.i_.length:Nat):Int))).bind fun u25=>
 (idx e24 (2:Int)).bind fun e26=>
 (some (r17.i_.set ((1:Int)).toNat (e24.set ((2:Int)).toNat (1:Int)))).bind fun l27=>
 (Dz (⟨r17.aaG,l27,r17.adt,r17.aaX⟩:AA)).bind fun r28=>
 (some (if r2.2==0 then(r2.1.d_.length:Int)==18 else false)).bind fun b29=>
 (some (if b29 then r2.1.ab2==19 else false)).bind fun b30=>
 (some (if b30 then r2.1.abi==1 else false)).bind fun b31=>
 (gd (b31==true) (idx r2.1.g_ (0:Int))).bind fun e32=>
 (some (if b31 then(e32.S_.length:Int)==9 else false)).bind fun b33=>
 (some (if b33 then r2.1.aaT==0 else false)).bind fun b34=>
 (gd (b34==true) (idx ajq.g_ (1:Int))).bind fun e35=>
 (some (if b34 then(e35.Hand.length:Int)==6 else false)).bind fun b36=>
 (gd (b36==true) (idx ajq.g_ (0:Int))).bind fun e37=>
 (some (if b36 then(e37.Hand.length:Int)==7 else false)).bind fun b38=>
 (some (if b38 then ajq.aaT==1 else false)).bind fun b39=>
 (some (if b39 then r16.2==1 else false)).bind fun b40=>
 (some (if b40 then r28.2==2 else false)).bind fun b41=>
 some b41
def Yk (ad9:(Ai)->Option (Bool)) (aoB:Ai):Option (Bool):=
 ad9 ({{{aoB with aaT:=(1:Int)}with Step:=(0:Int)}with adC:=false})
def Ym (acX:List (Ed)) (agr:Int) (aoA:Ai) (ajN:Int) (afG:Int) (aey:Int) (aew:Int) (ae8:Int) (afD:Int) (ag6:Int) (aiS:Bool) (akx:Bool):Option (((List (Ed))×Int×Ai×Int×Int×Int×Int×Int×Int×Int×Bool×Bool)⊕(Ai)):=
 some (.inl (acX,(Aa (agr+1)),aoA,ajN,afG,aey,aew,ae8,afD,ag6,aiS,akx))
def Wj (e85:Int) (agM:Int) (amv:Ai) (anm:List (Int)) (afP:Int) (acC:Int) (abW:Int) (abU:Int) (aca:Int) (acA:Int) (adB:Int) (ae4:Bool) (agS:Bool):Option ((Int×Ai×Int×Int×Int×Int×Int×Int×Int×Bool×Bool)⊕((Ai×Int×Int×Int×Int×Int×Int×Int×Bool×Bool)⊕(Ai×Int×Int×Int×Int×Int×Int×Int×Bool×Bool))):=
 (idx anm (0:Int)).bind fun aAg=>
 (if aAg==0 then
  some (.inr (.inr (amv,afP,acC,abW,abU,aca,acA,adB,ae4,agS)))
 else
  (PN amv e85).bind fun aya=>
  some (.inl ((Aa (agM - 1)),aya,afP,acC,abW,abU,aca,acA,adB,ae4,agS)))
def Wl (aaz:List (List (Int))) (acX:List (Ed)) (e85:Int) (agM:Int) (akD:Ai) (aae:Int) (Tu:Int) (O_:Int) (N_:Int) (Tg:Int) (Ts:Int) (aat:Int) (aaE:Bool) (abX:Bool):Option ((Int×Ai×Int×Int×Int×Int×Int×Int×Int×Bool×Bool)⊕((Ai×Int×Int×Int×Int×Int×Int×Int×Bool×Bool)⊕(Ai×Int×Int×Int×Int×Int×Int×Int×Bool×Bool))):=
 (if decide (0<agM) then
  (XE akD e85 agM).bind fun amv=>
  (MJ amv (1:Int) e85).bind fun ayb=>
  (if((ayb.length:Int)==0) then
   some (.inr (.inr (amv,aae,Tu,O_,N_,Tg,Ts,aat,aaE,abX)))
  else
   jn (fun(v:(List (Int))×Int×Int×Int×Int×Int×Int×Int×Bool×Bool)=>Wj e85 agM amv v.1 v.2.1 v.2.2.1 v.2.2.2.1 v.2.2.2.2.1 v.2.2.2.2.2.1 v.2.2.2.2.2.2.1 v.2.2.2.2.2.2.2.1 v.2.2.2.2.2.2.2.2.1 v.2.2.2.2.2.2.2.2.2) (fun anX=>
   (some (if false then true else aaE)).bind fun aAT=>
   (some (if aAT then true else abX)).bind fun avS=>
   (gd (avS==false) (bG (⟨11,e85,0,0,0,0,acX⟩:Cb))).bind fun ax9=>
   (some (if avS then true else ax9)).bind fun aAS=>
   (if aAS then
    (Px (⟨11,e85,0,0,0,0,acX⟩:Cb)).bind fun ax8=>
    anX (ax8,aae,Tu,O_,N_,Tg,Ts,aat,aaE,abX)
   else if(aae==(aaz.length:Int)) then
    none
   else
    (idx aaz aae).bind fun aHX=>
    (idx aaz aae).bind fun avH=>
    (iH (⟨11,e85,0,0,0,0,acX⟩:Cb) avH).bind fun ax7=>
    (if !ax7 then
     (Px (⟨11,e85,0,0,0,0,acX⟩:Cb)).bind fun ax6=>
     anX (ax6,(Aa (aae+1)),Tu,O_,N_,Tg,Ts,aat,aaE,true)
    else
     (ED avH).bind fun ax5=>
     anX (ax5,(Aa (aae+1)),Tu,O_,N_,Tg,Ts,aat,aaE,abX)))))
 else
  some (.inr (.inl (akD,aae,Tu,O_,N_,Tg,Ts,aat,aaE,abX))))
def Yn (aaz:List (List (Int))) (r45:(List (Int))) (acX:List (Ed)) (agr:Int) (akE:Ai) (ajO:Int) (afH:Int) (aez:Int) (aex:Int) (ae9:Int) (afE:Int) (ag7:Int) (aiT:Bool) (aky:Bool):Option (((List (Ed))×Int×Ai×Int×Int×Int×Int×Int×Int×Int×Bool×Bool)⊕(Ai)):=
 (if(decide (agr<(r45.length:Int))) then
  jn (fun(v:Ai×Int×Int×Int×Int×Int×Int×Int×Bool×Bool)=>Ym acX agr v.1 v.2.1 v.2.2.1 v.2.2.2.1 v.2.2.2.2.1 v.2.2.2.2.2.1 v.2.2.2.2.2.2.1 v.2.2.2.2.2.2.2.1 v.2.2.2.2.2.2.2.2.1 v.2.2.2.2.2.2.2.2.2) (fun aul=>
  (idx r45 agr).bind fun e85=>
  (iter (fun(v:Int×Ai×Int×Int×Int×Int×Int×Int×Int×Bool×Bool)=>Wl aaz acX e85 v.1 v.2.1 v.2.2.1 v.2.2.2.1 v.2.2.2.2.1 v.2.2.2.2.2.1 v.2.2.2.2.2.2.1 v.2.2.2.2.2.2.2.1 v.2.2.2.2.2.2.2.2.1 v.2.2.2.2.2.2.2.2.2.1 v.2.2.2.2.2.2.2.2.2.2) FU ((7:Int),akE,ajO,afH,aez,aex,ae9,afE,ag7,aiT,aky)).bind (Sum.elim (fun o0=>aul (o0.1,o0.2.1,o0.2.2.1,o0.2.2.2.1,o0.2.2.2.2.1,o0.2.2.2.2.2.1,o0.2.2.2.2.2.2.1,o0.2.2.2.2.2.2.2.1,o0.2.2.2.2.2.2.2.2.1,o0.2.2.2.2.2.2.2.2.2)) (fun o1=>aul (o1.1,o1.2.1,o1.2.2.1,o1.2.2.2.1,o1.2.2.2.2.1,o1.2.2.2.2.2.1,o1.2.2.2.2.2.2.1,o1.2.2.2.2.2.2.2.1,o1.2.2.2.2.2.2.2.2.1,o1.2.2.2.2.2.2.2.2.2))))
 else
  some (.inr akE))
def Yo (r2:Ai×Int) (akw:Int) (af7:Int) (ae6:Int) (ae5:Int) (afF:Int) (af6:Int) (ahA:Int) (aiU:Bool) (akz:Bool) (aaz:List (List (Int))):Option (Bool):=
 jn (fun(v:Ai)=>Yj r2 v) (fun ad9=>
 (Qt r2.1).bind fun r42=>
 jn (fun(v:Ai)=>Yk ad9 v) (fun ayQ=>
 (XC (⟨r42.g_,r42.d_,r42.Td,r42.aet,r42.Stack,r42.abm,r42.ad0,r42.aaT,r42.abi,r42.Step,r42.adC,r42.Priority,r42.Passes,r42.ab2,r42.aaj,r42.adt,r42.Extra,r42.ahi,r42.ack⟩:Ai)).bind fun r45=>
 (iter (fun(v:(List (Ed))×Int×Ai×Int×Int×Int×Int×Int×Int×Int×Bool×Bool)=>Yn aaz r45 v.1 v.2.1 v.2.2.1 v.2.2.2.1 v.2.2.2.2.1 v.2.2.2.2.2.1 v.2.2.2.2.2.2.1 v.2.2.2.2.2.2.2.1 v.2.2.2.2.2.2.2.2.1 v.2.2.2.2.2.2.2.2.2.1 v.2.2.2.2.2.2.2.2.2.2.1 v.2.2.2.2.2.2.2.2.2.2.2) FU (([(⟨10,0,0⟩:Ed),(⟨9,0,0⟩:Ed)]:List (Ed)),(0:Int),(⟨r42.g_,r42.d_,r42.Td,r42.aet,r42.Stack,r42.abm,r42.ad0,r42.aaT,r42.abi,r42.Step,r42.adC,r42.Priority,r42.Passes,r42.ab2,r42.aaj,r42.adt,r42.Extra,r42.ahi,r42.ack⟩:Ai),akw,af7,ae6,ae5,afF,af6,ahA,aiU,akz)).bind (fun o0=>ayQ o0)))
def Wm (afB:(Int×Int×Int×Int×Int×Int×Int×Bool×Bool×(List (List (Int))))->Option (Bool)) (aiV:Int) (ae_:Int) (aeg:Int) (aef:Int) (aeA:Int) (ae7:Int) (agQ:Int) (ain:Bool) (ajP:Bool) (ah7:List (List (Int))):Option (Bool):=
 afB (aiV,ae_,aeg,aef,aeA,ae7,agQ,ain,ajP,ah7)
def Wn (ags:Int) (afO:Int) (acB:Int) (abV:Int) (abT:Int) (ab_:Int) (acz:Int) (adA:Int) (ae3:Bool) (agR:Bool) (aeQ:List (List (Int))):Option ((Int×Int×Int×Int×Int×Int×Int×Int×Bool×Bool×(List (List (Int))))⊕((Int×Int×Int×Int×Int×Int×Int×Bool×Bool×(List (List (Int)))))):=
 (if(decide (ags<(([([(1:Int)]:List (Int)),([(0:Int)]:List (Int)),([(0:Int)]:List (Int))]:List (List (Int))).length :Int))) then
  (idx ([([(1:Int)]:List (Int)),([(0:Int)]:List (Int)),([(0:Int)]:List (Int))]:List (List (Int))) ags).bind fun aHT=>
  (idx ([([(1:Int)]:List (Int)),([(0:Int)]:List (Int)),([(0:Int)]:List (Int))]:List (List (Int))) ags).bind fun az_=>
  (ED az_).bind fun ax0=>
  (app 24 aeQ ([ax0]:List (List (Int)))).bind fun aj6=>
  some (.inl ((Aa (ags+1)),afO,acB,abV,abT,ab_,acz,adA,ae3,agR,aj6))
 else
  some (.inr (afO,acB,abV,abT,ab_,acz,adA,ae3,agR,aeQ)))
def IL:Option (Bool):=
 (Po (9:Int) (5:Int)).bind fun r1=>
 (Dz r1).bind fun r2=>
 jn (fun(v:Int×Int×Int×Int×Int×Int×Int×Bool×Bool×(List (List (Int))))=>Yo r2 v.1 v.2.1 v.2.2.1 v.2.2.2.1 v.2.2.2.2.1 v.2.2.2.2.2.1 v.2.2.2.2.2.2.1 v.2.2.2.2.2.2.2.1 v.2.2.2.2.2.2.2.2.1 v.2.2.2.2.2.2.2.2.2) (fun afB=>
 jn (fun(v:Int×Int×Int×Int×Int×Int×Int×Bool×Bool×(List (List (Int))))=>Wm afB v.1 v.2.1 v.2.2.1 v.2.2.2.1 v.2.2.2.2.1 v.2.2.2.2.2.1 v.2.2.2.2.2.2.1 v.2.2.2.2.2.2.2.1 v.2.2.2.2.2.2.2.2.1 v.2.2.2.2.2.2.2.2.2) (fun anW=>
 (iter (fun(v:Int×Int×Int×Int×Int×Int×Int×Int×Bool×Bool×(List (List (Int))))=>Wn v.1 v.2.1 v.2.2.1 v.2.2.2.1 v.2.2.2.2.1 v.2.2.2.2.2.1 v.2.2.2.2.2.2.1 v.2.2.2.2.2.2.2.1 v.2.2.2.2.2.2.2.2.1 v.2.2.2.2.2.2.2.2.2.1 v.2.2.2.2.2.2.2.2.2.2) FU ((0:Int),(0:Int),(0:Int),(0:Int),(0:Int),(0:Int),(0:Int),(0:Int),false,false,([]:List (List (Int))))).bind (fun o0=>anW (o0.1,o0.2.1,o0.2.2.1,o0.2.2.2.1,o0.2.2.2.2.1,o0.2.2.2.2.2.1,o0.2.2.2.2.2.2.1,o0.2.2.2.2.2.2.2.1,o0.2.2.2.2.2.2.2.2.1,o0.2.2.2.2.2.2.2.2.2))))
def eG:Bb:=mC [dv,XI,VR,PB,eg,ey,Pw,kL,dM,po,Wd] 7 Tryz.f7 (.s .n (.s .n (.s (.r [] [] (.t (.q 3 .bf (.j 4 ⟨[1,2,19],[(18, .c (.c (.ptr [7,18] (0))))],[[1]],[([7,18], .box [.c (.e_ [1000,7,18]),AF,AF,AF,AF,AF,AF,AF, .c (.s_),Lk,Lk]),([1000,7,18], .row 31)]⟩ (.s (.r [] [] (.g 0 (.ug [1,2,18,19]) .n)) (.s (.r [] [([7,18],0,[1000,7,18],31)] .n) (.j ⟨[3],[],[[1]],[([7,18], .box [.c (.e_ [1000,7,18]),AF,AF,AF,AF,AF,AF,AF, .c (.s_),Lk,Lk]),([1000,7,18], .row 31)]⟩ (.s .n (.l ⟨[3,8,9],[Bd 10],[[1],[17]],[([7,18], .box [.c (.e_ [1000,7,18]),AF,AF,AF,AF,AF,AF,AF, .c (.s_),Lk,Lk]),([1000,7,18], .row 31)]⟩ [(1,⟨[3],[],[[1]],[([7,18], .box [.c (.e_ [1000,7,18]),AF,AF,AF,AF,AF,AF,AF, .c (.s_),Lk,Lk]),([1000,7,18], .row 31)]⟩)] (.s .n (.s .n (.s (.s .n (.r [] [] (.t (.q 4 .lz (.q 6 .co (.q 7 .bf .n)))))) .n))))) .n))) (.j 6 ⟨[1,2],[(20, .agg [.v (.s 36)])],[[1]],[]⟩ (.s (.r [] [] (.g 0 (.ug [1,2,20]) .n)) (.s (.r [] [] (.q 1 .co .n)) (.s .n (.s .n (.j ⟨[3,4],[],[[1],[4,20]],[([3,20], .box [.v (.s 36)])]⟩ (.s (.r [[3,0,11,20],[4,0,11,20],[16,0,11,20],[5,0,11,20],[2,0,11,20],[1,0,11,20]] [] (.g 0 (.fd [1000003,0,0,11,20]) .n)) (.l ⟨[0,3,4,16,17],[(5, .c (.v (.k (.l_ 82)))),Bd 18],[[1],[4,20],[1000,7,18]],[([3,20], .box [.v (.s 36)]),([7,18], .box [.c (.e_ [1000,7,18]),AF,AF,AF,AF,AF,AF,AF, .c (.s_),Lk,Lk])]⟩ [(1,⟨[3,4],[],[[1],[4,20]],[([3,20], .box [.v (.s 36)])]⟩)] (.s .n (.s .n (.j ⟨[0,3,4,5,16,17,18],[],[[1],[4,20],[1000,7,18]],[([3,20], .box [.v (.s 36)]),([7,18], .box [.c (.e_ [1000,7,18]),AF,AF,AF,AF,AF,AF,AF, .c (.s_),Lk,Lk])]⟩ (.s .n (.s .n (.l ⟨[0,3,4,5,7,16,17,18],[Bd 8],[[1],[4,20],[1000,7,18]],[([3,20], .box [.v (.s 36)]),([7,18], .box [.c (.e_ [1000,7,18]),AF,AF,AF,AF,AF,AF,AF, .c (.s_),Lk,Lk])]⟩ [(3,⟨[0,3,4,5,16,17,18],[],[[1],[4,20],[1000,7,18]],[([3,20], .box [.v (.s 36)]),([7,18], .box [.c (.e_ [1000,7,18]),AF,AF,AF,AF,AF,AF,AF, .c (.s_),Lk,Lk])]⟩),(2,⟨[0,3,4,5,16,17,18],[],[[1],[4,20],[1000,7,18]],[([3,20], .box [.v (.s 36)]),([7,18], .box [.c (.e_ [1000,7,18]),AF,AF,AF,AF,AF,AF,AF, .c (.s_),Lk,Lk])]⟩)] (.s .n (.s (.s .n (.s .n (.s (.r [] [] (.j 4 ⟨[0,3,4,5,7,8,16,17,18],[(39, .c (.v (.k (.l_ 3))))],[[1],[3,20],[4,20],[1000,7,18]],[([7,18], .box [.c (.e_ [1000,7,18]),AF,AF,AF,AF,AF,AF,AF, .c (.s_),Lk,Lk])]⟩ (.s (.r [] [] (.g 0 (.ug [0,3,4,5,7,8,16,17,18,39]) .n)) (.s .n (.s (.s .n (.i .x .n)) (.s .n (.s .n (.s .n (.s (.r [] [] (.q 1 .co .n)) .n))))))) .n)) .n))) .n))))) .n))))) .n))))) .n))))) (.s .n (.s (.r [] [] (.q 0 .co .n)) (.s (.r [] [] (.q 3 .mld (.q 4 .mix (.q 5 .mst .n)))) (.s (.r [] [] (.g 0 (.fd [1000003,1,0,26]) .n)) .n))))))) [] [.k (.bool)] (fun x=>IL) Tryz.func7 (by kernel_rfl)
def lu:Option (Int):=
 some (0:Int)
def eH (ady:Int):Option ((Int)⊕(Unit⊕Int)):=
 some (.inl (Aa (ady+1)))
def FF (a0:AA) (ady:Int) (ajA:Int):Option ((Int)⊕(Unit⊕Int)):=
 (idx a0.i_ ady).bind fun e19=>
 (if(decide (ajA<(e19.length:Int))) then
  (idx a0.i_ ady).bind fun e21=>
  (idx e21 ajA).bind fun e22=>
  (some (if decide (e22<0) then true else decide ((a0.aaG.length:Int)<=e22))).bind fun b23=>
  (gd (b23==false) (idx a0.aaG e22)).bind fun e24=>
  (some (if b23 then true else e24.Token)).bind fun b25=>
  (if b25 then
   some (.inr (.inr (2:Int)))
  else
   some (.inl (Aa (ajA+1))))
 else
  some (.inr (.inl ())))
def L4 (a0:AA) (ady:Int):Option ((Int)⊕(Unit⊕Int)):=
 (if(decide (ady<(a0.i_.length:Int))) then
  jn (fun(v:Unit)=>eH ady) (fun ade=>
  (iter (fun(v:Int)=>FF a0 ady v) FU (0:Int)).bind (Sum.elim (fun o0=>ade ()) (fun o1=>some (.inr (.inr o1)))))
 else
  some (.inr (.inl ())))
def N1 (a0:AA):Option (Int):=
 jn (fun(v:Unit)=>lu) (fun jJ8=>
 (iter (fun(v:Int)=>L4 a0 v) FU (0:Int)).bind (Sum.elim (fun o0=>jJ8 ()) (fun o1=>some o1)))
def eJ (a0:AA) (ajB:Int):Option ((Int)⊕(Unit⊕Int)):=
 (if(decide (ajB<(a0.i_.length:Int))) then
  (idx a0.i_ ajB).bind fun e32=>
  (if(decide (250<(e32.length:Int))) then
   some (.inr (.inr (5:Int)))
  else
   some (.inl (Aa (ajB+1))))
 else
  some (.inr (.inl ())))
def Qy (a0:AA):Option (Int):=
 (MS a0.aaG).bind fun r1=>
 (if r1.2 != 0 then
  some r1.2
 else
  (some (if(decide ((a0.i_.length:Int)<2)) then true else decide (4<(a0.i_.length:Int)))).bind fun b3=>
  (some (if b3 then true else decide (a0.aaX<0))).bind fun b4=>
  (some (if b4 then true else decide ((a0.i_.length:Int)<=a0.aaX))).bind fun b5=>
  (if b5 then
   some (1:Int)
  else
   jn (fun(v:Unit)=>N1 a0) (fun jJ7=>
   (iter (fun(v:Int)=>eJ a0 v) FU (0:Int)).bind (Sum.elim (fun o0=>jJ7 ()) (fun o1=>some o1)))))
def py:Bb:=mC [px] 25 Tryz.f25 (.s .n (.s .n (.s .n (.s .n (.j ⟨[1],[],[[1]],[]⟩ (.s .n (.l ⟨[1],[Bd 5],[[1]],[]⟩ [(1,⟨[1],[],[[1]],[]⟩),(0,⟨[],[Bd 2],[],[]⟩)] .n)) (.j IT (.s .n (.l ⟨[1],[Bd 6],[[1]],[]⟩ [(3,IT),(0,⟨[],[Bd 2],[],[]⟩)] (.s .n (.j ⟨[1,6],[],[[1]],[]⟩ (.s .n (.l ⟨[1,6],[Bd 7],[[1]],[]⟩ [(5,⟨[1,6],[],[[1]],[]⟩),(0,⟨[],[Bd 2],[],[]⟩)] .n)) .n)))) .n)))))) [.s 26] [.k (.int .i64)] (fun x=>Qy x.1) Tryz.func25 (by kernel_rfl)
end Go.PL
