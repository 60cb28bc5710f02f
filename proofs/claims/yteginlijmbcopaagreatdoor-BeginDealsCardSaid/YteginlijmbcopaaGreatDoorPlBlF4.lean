/- Functions of the program, as partial functions in Lean, with proofs. -/
import Derived.Test.YteginlijmbcopaaGreatDoorPlBlB
import Derived.Test.YteginlijmbcopaaGreatDoorPlBlF0
import Derived.Test.YteginlijmbcopaaGreatDoorPlBlF1
import Derived.Test.YteginlijmbcopaaGreatDoorPlBlF2
import Derived.Test.YteginlijmbcopaaGreatDoorPlBlF3
namespace Go.PL
open Go Go.RowKit Go.Proofs
set_option maxRecDepth 100000
set_option linter.all false
set_option maxHeartbeats 4000000
attribute [local irreducible] Aq Cr Cc
def UF (a0:JN):Option (Bool):=
 (some (if a0.Types==2 then true else a0.Types==4)).bind fun b7=>
 (gd (b7==false) (Kx a0.Types (1:Int))).bind fun r8=>
 (gd ((b7==false)&&((!r8)==true)) (Kx a0.Types (2:Int))).bind fun r9=>
 (some (if !r8 then !r9 else false)).bind fun b10=>
 (some (if b7 then true else b10)).bind fun b11=>
 some b11
def J1 (a0:JN) (adJ:Int):Option ((Int)⊕(Unit⊕Bool)):=
 (if(decide (adJ<(a0.afB.length:Int))) then
  (idx a0.afB adJ).bind fun e17=>
  (Jb e17).bind fun r18=>
  (gd (((!r18)==false)&&((decide (0<adJ))==true)) (idx a0.afB (Ab (adJ - 1)))).bind fun e19=>
  (gd (((!r18)==false)&&((decide (0<adJ))==true)) (idx a0.afB adJ)).bind fun e20=>
  (some (if decide (0<adJ) then !(Op.bytesLess e19 e20)else false)).bind fun b21=>
  (some (if !r18 then true else b21)).bind fun b22=>
  (if b22 then
   some (.inr (.inr false))
  else
   some (.inl (Ab (adJ+1))))
 else
  some (.inr (.inl ())))
def ac (a0:JN):Option (Bool):=
 (some (if decide (a0.agi<0) then true else decide (3<a0.agi))).bind fun b1=>
 (some (if b1 then true else decide (a0.Types<1))).bind fun b2=>
 (some (if b2 then true else decide (63<a0.Types))).bind fun b3=>
 (some (if b3 then true else decide (4<(a0.afB.length:Int)))).bind fun b4=>
 (if b4 then
  some false
 else
  jn (fun(v:Unit)=>UF a0) (fun jJ6=>
  (iter (fun(v:Int)=>J1 a0 v) FU (0:Int)).bind (Sum.elim (fun o0=>jJ6 ()) (fun o1=>some o1))))
def yI:A9:=mC [Ov,fE] 107 Tryz.f107 (.s .n (.s .n (.j ⟨[1],[],[[1]],[]⟩ (.s .n (.l ⟨[1],[A0 3],[[1]],[]⟩ [(1,⟨[1],[],[[1]],[]⟩),(0,⟨[],[EO 2],[],[]⟩)] .n)) .n))) [.s 96] [.k (.bool)] (fun x=>ac x.1) Tryz.func107 (by kernel_rfl)
def FM (a0:Av):Option (Bool):=
 (some (if decide (a0.O_<0) then true else decide (5<a0.O_))).bind fun b1=>
 (some (if b1 then true else decide (a0.Who<0))).bind fun b2=>
 (some (if b2 then true else decide (2<a0.Who))).bind fun b3=>
 (some (if b3 then true else decide (a0.Self<0))).bind fun b4=>
 (some (if b4 then true else decide (2<a0.Self))).bind fun b5=>
 (some (if b5 then true else decide (a0.Tap<0))).bind fun b6=>
 (some (if b6 then true else decide (2<a0.Tap))).bind fun b7=>
 (if b7 then
  some false
 else
  (ES a0.Types a0.ad_ (63:Int)).bind fun r9=>
  (gd ((!r9)==false) (ES a0.ah6 a0.adq (31:Int))).bind fun r10=>
  (some (if !r9 then true else !r10)).bind fun b11=>
  (if b11 then
   some false
  else
   (gd ((a0.Sub != ([]:List UInt8))==true) (Jb a0.Sub)).bind fun r13=>
   (some (if(a0.Sub != ([]:List UInt8)) then !r13 else false)).bind fun b14=>
   (some (if b14 then true else decide (a0.Keys<0))).bind fun b15=>
   (some (if b15 then true else decide (131071<a0.Keys))).bind fun b16=>
   (if b16 then
    some false
   else
    (I9 a0.Power).bind fun r18=>
    (gd (r18==true) (I9 a0.acD)).bind fun r19=>
    (some (if r18 then r19 else false)).bind fun b20=>
    (gd (b20==true) (I9 a0.Value)).bind fun r21=>
    (some (if b20 then r21 else false)).bind fun b22=>
    some b22)))
def GE:A9:=mC [mT,Ov,mU] 137 Tryz.f137 .n [.s 110] [.k (.bool)] (fun x=>FM x.1) Tryz.func137 (by kernel_rfl)
def WD (apO:Int):Option ((List UInt8)):=
 (Dh apO).bind fun r3=>
 some r3
def WE (a0:Int) (alh:Int) (arq:Int):Option ((Int×Int)⊕(Int)):=
 (if decide (arq<a0) then
  some (.inl ((Ab (alh*(2:Int))),(Ab (arq+1))))
 else
  some (.inr alh))
def IQ (a0:Int):Option ((List UInt8)):=
 jn (fun(v:Int)=>WD v) (fun jJ2=>
 (iter (fun(v:Int×Int)=>WE a0 v.1 v.2) FU ((1:Int),(0:Int))).bind (fun o0=>jJ2 o0))
def ae:A9:=mC [Nd] 242 Tryz.f242 (.s .n (.s .n (.j ⟨[],[A0 3],[],[]⟩ (.s .n (.l ⟨[0],[A0 3,A0 4],[],[]⟩ [(1,⟨[],[A0 3],[],[]⟩)] .n)) .n))) [.k (.int .i64)] [.k (.str)] (fun x=>IQ x.1) Tryz.func242 (by kernel_rfl)
def IR (a0:A6 (Int)):Option ((List UInt8)):=
 (ZC a0).bind fun r1=>
 (Sy r1).bind fun r2=>
 some r2
def ah:A9:=mC [qS,rk] 230 Tryz.f230 .n [.s 59] [.k (.str)] (fun x=>IR x.1) Tryz.func230 (by kernel_rfl)
def nI:Option (Bool):=
 some true
def H7 (a0:Aa) (a1:List (Int)) (a2:Int) (a3:Int) (amc:Int):Option ((Int)⊕(Unit⊕Bool)):=
 (if(decide (amc<(a1.length:Int))) then
  (idx a1 amc).bind fun e7=>
  (J0 a0 e7).bind fun r8=>
  (some (if !r8.2 then true else r8.1.O_ != a2)).bind fun b9=>
  (some (if decide (0<=a3) then r8.1.p_ != a3 else false)).bind fun b10=>
  (some (if b9 then true else b10)).bind fun b11=>
  (gd (b11==false) (idx a1 amc)).bind fun e12=>
  (gd (b11==false) (LX a1 e12)).bind fun r13=>
  (some (if b11 then true else r13 != 1)).bind fun b14=>
  (if b14 then
   some (.inr (.inr false))
  else
   some (.inl (Ab (amc+1))))
 else
  some (.inr (.inl ())))
def H8 (a0:Aa) (a1:List (Int)) (a2:Int) (a3:Int):Option (Bool):=
 jn (fun(v:Unit)=>nI) (fun jJ1=>
 (iter (fun(v:Int)=>H7 a0 a1 a2 a3 v) FU (0:Int)).bind (Sum.elim (fun o0=>jJ1 ()) (fun o1=>some o1)))
def rn:A9:=mC [Sz,VU] 91 Tryz.f91 (.s .n (.j EN (.s .n (.l ⟨[1,2,3,4],[A0 9],[[4]],[]⟩ [(1,EN),(0,⟨[],[EO 8],[],[]⟩)] (.s .n (.s (.s (.r [] [] (.t (.q 0 .lz .n))) .n) .n)))) .n)) [.s 36, .k (.u_ 3), .k (.int .i64), .k (.int .i64)] [.k (.bool)] (fun x=>H8 x.1 x.2.1 x.2.2.1 x.2.2.2.1) Tryz.func91 (by kernel_rfl)
def OD:Option (Bool):=
 some true
def GF (a0:List (AN)) (a1:Aa) (Y_:Int):Option ((Int)⊕(Unit⊕Bool)):=
 (if(decide (Y_<(a1.b_.length:Int))) then
  (idx a1.b_ Y_).bind fun e8=>
  (jD e8 (a0.length:Int) (a1.a_.length:Int)).bind fun r9=>
  (some (if !r9 then true else decide (a1.f_<=e8.Id))).bind fun b10=>
  (some (if b10 then true else decide (a1.c_<=e8.adf))).bind fun b11=>
  (gd ((b11==false)&&((decide (0<Y_))==true)) (idx a1.b_ (Ab (Y_ - 1)))).bind fun e12=>
  (some (if decide (0<Y_) then decide (e8.Id<=e12.Id)else false)).bind fun b13=>
  (some (if b11 then true else b13)).bind fun b14=>
  (if b14 then
   some (.inr (.inr false))
  else
   (MP a1 e8).bind fun r16=>
   (if !r16 then
    some (.inr (.inr false))
   else
    some (.inl (Ab (Y_+1)))))
 else
  some (.inr (.inl ())))
def KI (a0:List (AN)) (a1:Aa):Option (Bool):=
 (if(decide (2048<(a1.b_.length:Int))) then
  some false
 else
  jn (fun(v:Unit)=>OD) (fun jJ2=>
  (iter (fun(v:Int)=>GF a0 a1 v) FU (0:Int)).bind (Sum.elim (fun o0=>jJ2 ()) (fun o1=>some o1))))
def cL:A9:=mC [yH,jK] 52 Tryz.f52 (.s .n (.s .n (.j EN (.s .n (.l ⟨[0,3],[A0 5],[[3]],[]⟩ [(1,EN),(0,⟨[],[EO 4],[],[]⟩)] .n)) .n))) [.k (.u_ 102), .s 36] [.k (.bool)] (fun x=>KI x.1 x.2.1) Tryz.func52 (by kernel_rfl)
def H9 (a0:AG) (a1:AG):Option (Bool):=
 (some (if a0.Kind==a1.Kind then a0.Filter==a1.Filter else false)).bind fun b3=>
 (gd (b3==true) (DG a0.aai a1.aai)).bind fun r4=>
 (some (if b3 then r4 else false)).bind fun b5=>
 (some (if b5 then a0.afC==a1.afC else false)).bind fun b6=>
 (some (if b6 then a0.alb==a1.alb else false)).bind fun b7=>
 (some (if b7 then a0.acv==a1.acv else false)).bind fun b8=>
 (some (if b8 then a0.May==a1.May else false)).bind fun b9=>
 (gd (b9==true) (EV a0.w_ a1.w_)).bind fun r10=>
 (some (if b9 then r10 else false)).bind fun b11=>
 (some (if b11 then a0.Replace==a1.Replace else false)).bind fun b12=>
 some b12
def IS (a0:AG) (a1:AG) (ai2:Int):Option ((Int)⊕(Unit⊕Bool)):=
 (if(decide (ai2<(a0.acg.length:Int))) then
  (idx a0.acg ai2).bind fun e18=>
  (idx a1.acg ai2).bind fun e19=>
  (if !(e18==e19) then
   some (.inr (.inr false))
  else
   some (.inl (Ab (ai2+1))))
 else
  some (.inr (.inl ())))
def GG (a0:AG) (a1:AG):Option (Bool):=
 (if((a0.acg.length:Int) != (a1.acg.length:Int)) then
  some false
 else
  jn (fun(v:Unit)=>H9 a0 a1) (fun jJ2=>
  (iter (fun(v:Int)=>IS a0 a1 v) FU (0:Int)).bind (Sum.elim (fun o0=>jJ2 ()) (fun o1=>some o1))))
def QW:A9:=mC [Ol,Z1] 103 Tryz.f103 (.s .n (.s .n (.j ⟨[2,3],[],[[2],[3]],[]⟩ (.s .n (.l ⟨[2,3],[A0 5],[[2],[3]],[]⟩ [(1,⟨[2,3],[],[[2],[3]],[]⟩),(0,⟨[],[EO 4],[],[]⟩)] .n)) .n))) [.s 121, .s 121] [.k (.bool)] (fun x=>GG x.1 x.2.1) Tryz.func103 (by kernel_rfl)
def UG:Option (Int×Int):=
 some ((-1:Int),(0:Int))
def UH (a0:List (AN)) (agl:Int):Option ((Int)⊕(Unit⊕(Int×Int))):=
 (if(decide (agl<(a0.length:Int))) then
  (idx a0 agl).bind fun e9=>
  (tp e9).bind fun r10=>
  (if !r10 then
   some (.inr (.inr (agl,(9:Int))))
  else
   (Sb a0 e9.Name).bind fun r12=>
   (if decide (r12<agl) then
    some (.inr (.inr (agl,(6:Int))))
   else
    (PV a0 e9).bind fun r14=>
    (if r14 then
     some (.inr (.inr (agl,(7:Int))))
    else
     some (.inl (Ab (agl+1))))))
 else
  some (.inr (.inl ())))
def P0 (a0:List (AN)):Option (Int×Int):=
 (if(decide (256<(a0.length:Int))) then
  some ((-1:Int),(5:Int))
 else
  jn (fun(v:Unit)=>UG) (fun jJ2=>
  (iter (fun(v:Int)=>UH a0 v) FU (0:Int)).bind (Sum.elim (fun o0=>jJ2 ()) (fun o1=>some (o1.1,o1.2)))))
def WF:A9:=mC [vU,ZJ,Wm] 54 Tryz.f54 (.s .n (.s .n (.j EN (.s .n (.l ⟨[0,9,10],[A0 11],[],[]⟩ [(1,EN),(0,⟨[],[A0 2,A0 3],[],[]⟩)] .n)) .n))) [.k (.u_ 102)] [.k (.int .i64), .k (.int .i64)] (fun x=>P0 x.1) Tryz.func54 (by kernel_rfl)
def ai (avq:List (Int)):Option ((List (Int))):=
 some avq
def Ia (a0:Aa):Option ((List (Int))):=
 (SB a0 a0.k_).bind fun r1=>
 jn (fun(v:(List (Int)))=>ai v) (fun jJ3=>
 (MJ a0).bind fun r4=>
 (Dw r4 a0.k_).bind fun r5=>
 (if r5 then
  (app 8 ([a0.k_]:List (Int)) r1).bind fun l7=>
  jJ3 l7
 else
  jJ3 r1))
def P1:A9:=mC [Z2,Oo,E7] 35 Tryz.f35 (.s .n (.s .n (.j ⟨[],[(3, .c (.v (.k (.u_ 3))))],[],[]⟩ (.s (.r [] [] (.t (.q 0 .lz .n))) .n) .n))) [.s 36] [.k (.u_ 3)] (fun x=>Ia x.1) Tryz.func35 (by kernel_rfl)
def Lf (r2:Aa) (aam:Int) (Tq:Int) (aao:Int) (aaa:Bool) (Q_:Int) (Tp:Int) (S_:Int) (IN:Int) (aap:Int) (aaq:Int) (Tl:Int) (aaU:List (AE)) (r62:Ae) (l73:List (Ae)) (an2:Int) (agp:List (Ap)):Option (Aa×Int):=
 some ((⟨agp,l73,r2.l_,r2.T_,aaU,r2.o_,r2.v_,aam,Tq,aao,aaa,Q_,Tp,Ab (S_+1),Ab (IN+1),aap,r2.Extra,aaq,Tl⟩:Aa),r62.Id)
def HD (a2:Int) (a4:Bool) (r2:Aa) (B_:List (Ae)) (m_:Int) (h_:List (Ap)) (aam:Int) (Tq:Int) (aao:Int) (aaa:Bool) (Q_:Int) (Tp:Int) (S_:Int) (IN:Int) (aap:Int) (aaq:Int) (Tl:Int) (aaU:List (AE)) (r62:Ae) (ajy:Int):Option (Aa×Int):=
 (A1 (0<=ajy/\ajy<=((B_.length:Nat):Int)/\((B_.length:Nat):Int)<=((B_.length:Nat):Int)/\((B_.length:Nat):Int)<=((B_.length:Nat):Int))).bind fun u70=>
 (if((([r62]:List (Ae)).length :Int)==0) then
  none
 else if(ajy==(B_.length:Int)) then
  (app 128 B_ ([r62]:List (Ae))).bind fun l73=>
  jn (fun(v:Int×(List (Ap)))=>Lf r2 aam Tq aao aaa Q_ Tp S_ IN aap aaq Tl aaU r62 l73 v.1 v.2) (fun apV=>
  (if a2==0 then
   none
  else if a2==4 then
   none
  else
   (some (if decide (r62.p_<0) then true else decide ((h_.length:Int)<=r62.p_))).bind fun b79=>
   (if b79 then
    none
   else
    (idx h_ r62.p_).bind fun e81=>
    (if a2==1 then
     (if true then
      (some (if a2==2 then !a4 else false)).bind fun b84=>
      (if b84 then
       (idx h_ r62.p_).bind fun e86=>
       (A1 (r62.p_<m_)).bind fun u87=>
       (A1 (0<=(0:Int)/\(0:Int)<=((e86.Hand.length:Nat):Int)/\0<([r62.Id]:List (Int)).length /\(e86.Hand.length+([r62.Id]:List (Int)).length)*8<=140737488355328)).bind fun u88=>
       (idx h_ r62.p_).bind fun e89=>
       (A1 (r62.p_<m_)).bind fun u90=>
       (A1 (r62.p_=r62.p_)).bind fun u91=>
       (some (h_.set (r62.p_).toNat ({e89 with Hand:=(e86.Hand.take (0:Int).toNat ++(([r62.Id]:List (Int))++e86.Hand.drop (0:Int).toNat))}))).bind fun l92=>
       apV (m_,l92)
      else
       (idx h_ r62.p_).bind fun e93=>
       (A1 (r62.p_<m_)).bind fun u94=>
       (app 8 e93.Hand ([r62.Id]:List (Int))).bind fun l95=>
       (idx h_ r62.p_).bind fun e96=>
       (A1 (r62.p_<m_)).bind fun u97=>
       (A1 (r62.p_=r62.p_)).bind fun u98=>
       (some (h_.set (r62.p_).toNat ({e96 with Hand:=l95}))).bind fun l99=>
       apV (m_,l99))
     else
      apV (m_,h_))
    else if a2==2 then
     (if true then
      (some (if a2==2 then !a4 else false)).bind fun awI=>
      (if awI then
       (idx h_ r62.p_).bind fun atx=>
       (A1 (r62.p_<m_)).bind fun aJU=>
       (A1 (0<=(0:Int)/\(0:Int)<=((atx.g_.length:Nat):Int)/\0<([r62.Id]:List (Int)).length /\(atx.g_.length+([r62.Id]:List (Int)).length)*8<=140737488355328)).bind fun aJT=>
       (idx h_ r62.p_).bind fun aEK=>
       (A1 (r62.p_<m_)).bind fun aJS=>
       (A1 (r62.p_=r62.p_)).bind fun aJR=>
       (some (h_.set (r62.p_).toNat ({aEK with g_:=(atx.g_.take (0:Int).toNat ++(([r62.Id]:List (Int))++atx.g_.drop (0:Int).toNat))}))).bind fun aC1=>
       apV (m_,aC1)
      else
       (idx h_ r62.p_).bind fun awo=>
       (A1 (r62.p_<m_)).bind fun aJQ=>
       (app 8 awo.g_ ([r62.Id]:List (Int))).bind fun aCZ=>
       (idx h_ r62.p_).bind fun amX=>
       (A1 (r62.p_<m_)).bind fun aJP=>
       (A1 (r62.p_=r62.p_)).bind fun aJO=>
       (some (h_.set (r62.p_).toNat ({amX with g_:=aCZ}))).bind fun avA=>
       apV (m_,avA))
     else
      apV (m_,h_))
    else if a2==3 then
     none
    else
     none))))
 else
  none)
def cM (a2:Int) (a4:Bool) (r2:Aa) (B_:List (Ae)) (m_:Int) (h_:List (Ap)) (aam:Int) (Tq:Int) (aao:Int) (aaa:Bool) (Q_:Int) (Tp:Int) (S_:Int) (IN:Int) (aap:Int) (aaq:Int) (Tl:Int) (aaU:List (AE)) (r62:Ae) (aoV:Int):Option (Aa×Int):=
 jn (fun(v:Int)=>HD a2 a4 r2 B_ m_ h_ aam Tq aao aaa Q_ Tp S_ IN aap aaq Tl aaU r62 v) (fun aru=>
 (if decide (aoV<0) then
  aru (B_.length:Int)
 else
  aru aoV))
def aj (as7:(Int)->Option (Aa×Int)):Option (Aa×Int):=
 as7 (-1:Int)
def GH (B_:List (Ae)) (r62:Ae) (abJ:Int):Option ((Int)⊕(Unit⊕Int)):=
 (if(decide (abJ<(B_.length:Int))) then
  (idx B_ abJ).bind fun aM3=>
  (idx B_ abJ).bind fun aEJ=>
  (if decide (r62.Id<aEJ.Id) then
   some (.inr (.inr abJ))
  else
   some (.inl (Ab (abJ+1))))
 else
  some (.inr (.inl ())))
def P2 (a2:Int) (a4:Bool) (r2:Aa) (B_:List (Ae)) (m_:Int) (h_:List (Ap)) (aam:Int) (Tq:Int) (aao:Int) (aaa:Bool) (Q_:Int) (Tp:Int) (S_:Int) (IN:Int) (aap:Int) (aaq:Int) (Tl:Int) (aaU:List (AE)) (r62:Ae) (akT:Int):Option (Aa×Int):=
 (if decide (0<=akT) then
  none
 else
  jn (fun(v:Int)=>cM a2 a4 r2 B_ m_ h_ aam Tq aao aaa Q_ Tp S_ IN aap aaq Tl aaU r62 v) (fun as7=>
  jn (fun(v:Unit)=>aj as7) (fun ayA=>
  (iter (fun(v:Int)=>GH B_ r62 v) FU (0:Int)).bind (Sum.elim (fun o0=>ayA ()) (fun o1=>as7 o1)))))
def OF (as8:(Int)->Option (Aa×Int)):Option (Aa×Int):=
 as8 (-1:Int)
def GI (B_:List (Ae)) (r62:Ae) (abI:Int):Option ((Int)⊕(Unit⊕Int)):=
 (if(decide (abI<(B_.length:Int))) then
  (idx B_ abI).bind fun aM1=>
  (idx B_ abI).bind fun aEG=>
  (if aEG.Id==r62.Id then
   some (.inr (.inr abI))
  else
   some (.inl (Ab (abI+1))))
 else
  some (.inr (.inl ())))
def DY (a2:Int) (a3:Int) (a4:Bool) (r1:Ae×Bool) (r2:Aa) (B_:List (Ae)) (m_:Int) (h_:List (Ap)) (aam:Int) (Tq:Int) (aao:Int) (aaa:Bool) (Q_:Int) (Tp:Int) (S_:Int) (IN:Int) (aap:Int) (aaq:Int) (Tl:Int) (aaU:List (AE)) (axm:Int) (auH:Int) (axn:Int) (awu:Bool) (asx:Int) (auF:Int) (auG:Int) (ar7:Int) (axo:Int) (axp:Int) (auE:Int):Option (Aa×Int):=
 (some (if r1.1.Token then a2 != 0 else false)).bind fun b59=>
 (some (if b59 then a2 != 5 else false)).bind fun b60=>
 (if b60 then
  some ((⟨h_,B_,r2.l_,r2.T_,aaU,r2.o_,r2.v_,aam,Tq,aao,aaa,Q_,Tp,S_,IN,aap,r2.Extra,aaq,Tl⟩:Aa),(0:Int))
 else
  (IJ r1.1 S_ a2 a3 IN).bind fun r62=>
  jn (fun(v:Int)=>P2 a2 a4 r2 B_ m_ h_ aam Tq aao aaa Q_ Tp S_ IN aap aaq Tl aaU r62 v) (fun as8=>
  jn (fun(v:Unit)=>OF as8) (fun ayz=>
  (iter (fun(v:Int)=>GI B_ r62 v) FU (0:Int)).bind (Sum.elim (fun o0=>ayz ()) (fun o1=>as8 o1)))))
def ak (abd:Int) (aaz:Int) (aaR:Int) (aaH:Bool) (W_:Int) (aax:Int) (aay:Int) (Tf:Int) (aaS:Int) (aaT:Int) (aaw:Int) (acb:Int) (abc:Int) (acd:Int) (abM:Bool) (aaG:Int) (aba:Int) (abb:Int) (aav:Int) (ace:Int) (acf:Int) (aa_:Int) (apW:(Int×Int×Int×Bool×Int×Int×Int×Int×Int×Int×Int×(List (AE))×Int×Int×Int×Bool×Int×Int×Int×Int×Int×Int×Int)->Option (Aa×Int)) (abl:Int) (aas:List (AE)):Option (Aa×Int):=
 (A1 (0<=abl/\abl<=((aas.length:Nat):Int)/\((aas.length:Nat):Int)<=((aas.length:Nat):Int)/\0<aas.length)).bind fun aJL=>
 (A1 (abl+(((aas.length:Nat):Int) - abl)<=((aas.length:Nat):Int)/\0<aas.length)).bind fun aJK=>
 (some (aas.take abl.toNat++(List.replicate (((aas.length:Nat):Int) - abl).toNat (⟨0,0,0,0,0,false,(⟨0,(⟨0,0,0,0,0,0,0,[],0,0,(⟨0,0⟩:As),(⟨0,0⟩:As),(⟨0,0⟩:As)⟩:Av),([]:List (BB)),(⟨(⟨0,0,(⟨0,0,0,0,0⟩:A5 (Int))⟩:AS),false,false,0⟩:CC),false,(⟨0,0,(⟨0,0,0,0,0,0,0,[],0,0,(⟨0,0⟩:As),(⟨0,0⟩:As),(⟨0,0⟩:As)⟩:Av)⟩:Bz),false,([]:List (C8)),([]:List (AF)),(⟨0,0,(⟨0,0,0,0,0,0,0,[],0,0,(⟨0,0⟩:As),(⟨0,0⟩:As),(⟨0,0⟩:As)⟩:Av),0,0,0,0⟩:Bn)⟩:AG),([]:List (C9)),(⟨0,0,0,0,0,0,0,0,0,0,false,false,(⟨0,0,0⟩:A3 (Int))⟩:Hm)⟩:AE)++aas.drop (abl.toNat+(((aas.length:Nat):Int) - abl).toNat)))).bind fun arl=>
 (A1 (0<=(0:Int)/\0<=abl/\abl<=((arl.length:Nat):Int)/\0<arl.length)).bind fun aJJ=>
 (A1 ((0:Int)=0/\(abl - 0)<=((arl.length:Nat):Int)/\0<arl.length)).bind fun aJI=>
 apW (abd,aaz,aaR,aaH,W_,aax,aay,Tf,aaS,aaT,aaw,(arl.take (abl - 0).toNat),acb,abc,acd,abM,aaG,aba,abb,aav,ace,acf,aa_)
def al (adm:Int) (aq0:Int) (amL:List (AE)):Option ((Int×Int×(List (AE)))⊕((Int×(List (AE))))):=
 some (.inl (aq0,(Ab (adm+1)),amL))
def am (r1:Ae×Bool) (adW:Int) (adm:Int) (aa9:List (AE)):Option ((Int×Int×(List (AE)))⊕((Int×(List (AE))))):=
 (if(decide (adm<(aa9.length:Int))) then
  jn (fun(v:Int×(List (AE)))=>al adm v.1 v.2) (fun at2=>
  (idx aa9 adm).bind fun aM0=>
  (idx aa9 adm).bind fun ap6=>
  (some (if ap6.Id==r1.1.Id then ap6.Kind==1 else false)).bind fun atE=>
  (if !atE then
   (idx aa9 adW).bind fun aMZ=>
   (idx aa9 adW).bind fun azH=>
   (some (aa9.set (adW).toNat ap6)).bind fun aCS=>
   at2 ((Ab (adW+1)),aCS)
  else
   at2 (adW,aa9)))
 else
  some (.inr (adW,aa9)))
def ao (r1:Ae×Bool) (r2:Aa) (abd:Int) (aaz:Int) (aaR:Int) (aaH:Bool) (W_:Int) (aax:Int) (aay:Int) (Tf:Int) (aaS:Int) (aaT:Int) (aaw:Int) (acb:Int) (abc:Int) (acd:Int) (abM:Bool) (aaG:Int) (aba:Int) (abb:Int) (aav:Int) (ace:Int) (acf:Int) (aa_:Int) (apW:(Int×Int×Int×Bool×Int×Int×Int×Int×Int×Int×Int×(List (AE))×Int×Int×Int×Bool×Int×Int×Int×Int×Int×Int×Int)->Option (Aa×Int)) (ajd:Int):Option (Aa×Int):=
 (if(ajd==(-1:Int)) then
  apW (abd,aaz,aaR,aaH,W_,aax,aay,Tf,aaS,aaT,aaw,r2.Stack,acb,abc,acd,abM,aaG,aba,abb,aav,ace,acf,aa_)
 else
  jn (fun(v:Int×(List (AE)))=>ak abd aaz aaR aaH W_ aax aay Tf aaS aaT aaw acb abc acd abM aaG aba abb aav ace acf aa_ apW v.1 v.2) (fun apa=>
  (iter (fun(v:Int×Int×(List (AE)))=>am r1 v.1 v.2.1 v.2.2) FU (ajd,(Ab (ajd+1)),r2.Stack)).bind (fun o0=>apa (o0.1,o0.2))))
def aq (apc:(Int)->Option (Aa×Int)):Option (Aa×Int):=
 apc (-1:Int)
def GJ (r1:Ae×Bool) (r2:Aa) (abH:Int):Option ((Int)⊕(Unit⊕Int)):=
 (if(decide (abH<(r2.Stack.length:Int))) then
  (idx r2.Stack abH).bind fun aMX=>
  (idx r2.Stack abH).bind fun atw=>
  (some (if atw.Id==r1.1.Id then atw.Kind==1 else false)).bind fun aFJ=>
  (if aFJ then
   some (.inr (.inr abH))
  else
   some (.inl (Ab (abH+1))))
 else
  some (.inr (.inl ())))
def Lg (a2:Int) (a3:Int) (a4:Bool) (r1:Ae×Bool) (r2:Aa) (B_:List (Ae)) (abd:Int) (aaz:Int) (aaR:Int) (aaH:Bool) (W_:Int) (aax:Int) (aay:Int) (Tf:Int) (aaS:Int) (aaT:Int) (aaw:Int) (acb:Int) (abc:Int) (acd:Int) (abM:Bool) (aaG:Int) (aba:Int) (abb:Int) (aav:Int) (ace:Int) (acf:Int) (aa_:Int) (m_:Int) (h_:List (Ap)):Option (Aa×Int):=
 jn (fun(v:Int×Int×Int×Bool×Int×Int×Int×Int×Int×Int×Int×(List (AE))×Int×Int×Int×Bool×Int×Int×Int×Int×Int×Int×Int)=>DY a2 a3 a4 r1 r2 B_ m_ h_ v.1 v.2.1 v.2.2.1 v.2.2.2.1 v.2.2.2.2.1 v.2.2.2.2.2.1 v.2.2.2.2.2.2.1 v.2.2.2.2.2.2.2.1 v.2.2.2.2.2.2.2.2.1 v.2.2.2.2.2.2.2.2.2.1 v.2.2.2.2.2.2.2.2.2.2.1 v.2.2.2.2.2.2.2.2.2.2.2.1 v.2.2.2.2.2.2.2.2.2.2.2.2.1 v.2.2.2.2.2.2.2.2.2.2.2.2.2.1 v.2.2.2.2.2.2.2.2.2.2.2.2.2.2.1 v.2.2.2.2.2.2.2.2.2.2.2.2.2.2.2.1 v.2.2.2.2.2.2.2.2.2.2.2.2.2.2.2.2.1 v.2.2.2.2.2.2.2.2.2.2.2.2.2.2.2.2.2.1 v.2.2.2.2.2.2.2.2.2.2.2.2.2.2.2.2.2.2.1 v.2.2.2.2.2.2.2.2.2.2.2.2.2.2.2.2.2.2.2.1 v.2.2.2.2.2.2.2.2.2.2.2.2.2.2.2.2.2.2.2.2.1 v.2.2.2.2.2.2.2.2.2.2.2.2.2.2.2.2.2.2.2.2.2.1 v.2.2.2.2.2.2.2.2.2.2.2.2.2.2.2.2.2.2.2.2.2.2) (fun apW=>
 jn (fun(v:Int)=>ao r1 r2 abd aaz aaR aaH W_ aax aay Tf aaS aaT aaw acb abc acd abM aaG aba abb aav ace acf aa_ apW v) (fun apc=>
 jn (fun(v:Unit)=>aq apc) (fun ayw=>
 (iter (fun(v:Int)=>GJ r1 r2 v) FU (0:Int)).bind (Sum.elim (fun o0=>ayw ()) (fun o1=>apc o1)))))
def HE (a2:Int) (a3:Int) (a4:Bool) (r1:Ae×Bool) (r2:Aa) (B_:List (Ae)) (abd:Int) (aaz:Int) (aaR:Int) (aaH:Bool) (W_:Int) (aax:Int) (aay:Int) (Tf:Int) (aaS:Int) (aaT:Int) (aaw:Int) (acb:Int) (abc:Int) (acd:Int) (abM:Bool) (aaG:Int) (aba:Int) (abb:Int) (aav:Int) (ace:Int) (acf:Int) (aa_:Int):Option (Aa×Int):=
 jn (fun(v:Int×(List (Ap)))=>Lg a2 a3 a4 r1 r2 B_ abd aaz aaR aaH W_ aax aay Tf aaS aaT aaw acb abc acd abM aaG aba abb aav ace acf aa_ v.1 v.2) (fun ata=>
 (if r1.1.O_==0 then
  none
 else if r1.1.O_==4 then
  none
 else
  (some (if decide (r1.1.p_<0) then true else decide ((r2.a_.length:Int)<=r1.1.p_))).bind fun aFI=>
  (if aFI then
   none
  else
   (idx r2.a_ r1.1.p_).bind fun aEE=>
   (if r1.1.O_==1 then
    (if true then
     (idx r2.a_ r1.1.p_).bind fun aEC=>
     (A1 (r1.1.p_<((r2.a_.length:Nat):Int))).bind fun aJE=>
     (Ci aEC.Hand r1.1.Id).bind fun aB2=>
     (idx r2.a_ r1.1.p_).bind fun aEB=>
     (A1 (r1.1.p_<((r2.a_.length:Nat):Int))).bind fun aJD=>
     (A1 (r1.1.p_=r1.1.p_)).bind fun aJC=>
     (some (r2.a_.set (r1.1.p_).toNat ({aEB with Hand:=aB2}))).bind fun aCN=>
     ata (((r2.a_.length:Nat):Int),aCN)
    else
     ata (((r2.a_.length:Nat):Int),r2.a_))
   else if r1.1.O_==2 then
    (if true then
     (idx r2.a_ r1.1.p_).bind fun aEA=>
     (A1 (r1.1.p_<((r2.a_.length:Nat):Int))).bind fun aJB=>
     (Ci aEA.g_ r1.1.Id).bind fun aB1=>
     (idx r2.a_ r1.1.p_).bind fun aEz=>
     (A1 (r1.1.p_<((r2.a_.length:Nat):Int))).bind fun aJz=>
     (A1 (r1.1.p_=r1.1.p_)).bind fun aJy=>
     (some (r2.a_.set (r1.1.p_).toNat ({aEz with g_:=aB1}))).bind fun aCM=>
     ata (((r2.a_.length:Nat):Int),aCM)
    else
     ata (((r2.a_.length:Nat):Int),r2.a_))
   else if r1.1.O_==3 then
    none
   else
    none))))
def MR (a2:Int) (a3:Int) (a4:Bool) (r1:Ae×Bool) (r2:Aa) (i_:Int):Option (Aa×Int):=
 jn (fun(v:(List (Ae))×Int×Int×Int×Bool×Int×Int×Int×Int×Int×Int×Int×Int×Int×Int×Bool×Int×Int×Int×Int×Int×Int×Int)=>HE a2 a3 a4 r1 r2 v.1 v.2.1 v.2.2.1 v.2.2.2.1 v.2.2.2.2.1 v.2.2.2.2.2.1 v.2.2.2.2.2.2.1 v.2.2.2.2.2.2.2.1 v.2.2.2.2.2.2.2.2.1 v.2.2.2.2.2.2.2.2.2.1 v.2.2.2.2.2.2.2.2.2.2.1 v.2.2.2.2.2.2.2.2.2.2.2.1 v.2.2.2.2.2.2.2.2.2.2.2.2.1 v.2.2.2.2.2.2.2.2.2.2.2.2.2.1 v.2.2.2.2.2.2.2.2.2.2.2.2.2.2.1 v.2.2.2.2.2.2.2.2.2.2.2.2.2.2.2.1 v.2.2.2.2.2.2.2.2.2.2.2.2.2.2.2.2.1 v.2.2.2.2.2.2.2.2.2.2.2.2.2.2.2.2.2.1 v.2.2.2.2.2.2.2.2.2.2.2.2.2.2.2.2.2.2.1 v.2.2.2.2.2.2.2.2.2.2.2.2.2.2.2.2.2.2.2.1 v.2.2.2.2.2.2.2.2.2.2.2.2.2.2.2.2.2.2.2.2.1 v.2.2.2.2.2.2.2.2.2.2.2.2.2.2.2.2.2.2.2.2.2.1 v.2.2.2.2.2.2.2.2.2.2.2.2.2.2.2.2.2.2.2.2.2.2) (fun arv=>
 (A1 (0<=i_/\i_<=(Ab (i_+1))/\(Ab (i_+1))<=(r2.b_.length:Int)/\(r2.b_.length:Int)<=((r2.b_.length:Nat):Int))).bind fun aJx=>
 (if i_==(Ab (i_+1)) then
  arv (r2.b_,r2.I_,r2.k_,r2.Step,r2.H_,r2.Priority,r2.Passes,r2.f_,r2.c_,r2.Tw,r2.aae,r2.z_,r2.I_,r2.k_,r2.Step,r2.H_,r2.Priority,r2.Passes,r2.f_,r2.c_,r2.Tw,r2.aae,r2.z_)
 else
  (A1 (0<=(0:Int)/\0<=i_/\i_<=((r2.b_.length:Nat):Int)/\0<r2.b_.length)).bind fun aJw=>
  (A1 (0<=(Ab (i_+1))/\(Ab (i_+1))<=((r2.b_.length:Nat):Int)/\((r2.b_.length:Nat):Int)<=((r2.b_.length:Nat):Int)/\0<r2.b_.length)).bind fun aJv=>
  (A1 ((0:Int)=0/\(i_ - 0)+(((r2.b_.length:Nat):Int) - (Ab (i_+1)))<=((r2.b_.length:Nat):Int)/\(Ab (i_+1))+(((r2.b_.length:Nat):Int) - (Ab (i_+1)))<=((r2.b_.length:Nat):Int)/\0<r2.b_.length)).bind fun aJu=>
  (some (r2.b_.take (i_ - 0).toNat ++((r2.b_.drop (Ab (i_+1)).toNat).take (((r2.b_.length:Nat):Int) - (Ab (i_+1))).toNat ++r2.b_.drop ((i_ - 0).toNat +(((r2.b_.length:Nat):Int) - (Ab (i_+1))).toNat)))).bind fun apP=>
  (A1 ((0:Int)=0/\0<=((((i_ - 0)+(((r2.b_.length:Nat):Int) - (Ab (i_+1)))).toNat :Nat):Int)/\((((i_ - 0)+(((r2.b_.length:Nat):Int) - (Ab (i_+1)))).toNat :Nat):Int)<=(r2.b_.length:Int)/\(r2.b_.length:Int)<=((apP.length:Nat):Int)/\0<apP.length)).bind fun aJt=>
  (A1 (((((i_ - 0)+(((r2.b_.length:Nat):Int) - (Ab (i_+1)))).toNat :Nat):Int)+((r2.b_.length:Int) - ((((i_ - 0)+(((r2.b_.length:Nat):Int) - (Ab (i_+1)))).toNat :Nat):Int))<=((apP.length:Nat):Int)/\0<apP.length)).bind fun aJs=>
  (some (apP.take ((((i_ - 0)+(((r2.b_.length:Nat):Int) - (Ab (i_+1)))).toNat :Nat):Int).toNat ++(List.replicate ((r2.b_.length:Int) - ((((i_ - 0)+(((r2.b_.length:Nat):Int) - (Ab (i_+1)))).toNat :Nat):Int)).toNat (⟨0,0,0,0,0,false,false,false,false,0,(⟨0,0,0⟩:A3 (Int)),0,0,0,false,0,0⟩:Ae)++apP.drop (((((i_ - 0)+(((r2.b_.length:Nat):Int) - (Ab (i_+1)))).toNat :Nat):Int).toNat +((r2.b_.length:Int) - ((((i_ - 0)+(((r2.b_.length:Nat):Int) - (Ab (i_+1)))).toNat :Nat):Int)).toNat)))).bind fun avy=>
  (A1 ((0:Int)=0/\((i_ - 0)+(((r2.b_.length:Nat):Int) - (Ab (i_+1))))<=((avy.length:Nat):Int)/\0<avy.length)).bind fun aJr=>
  arv ((avy.take ((i_ - 0)+(((r2.b_.length:Nat):Int) - (Ab (i_+1)))).toNat),r2.I_,r2.k_,r2.Step,r2.H_,r2.Priority,r2.Passes,r2.f_,r2.c_,r2.Tw,r2.aae,r2.z_,r2.I_,r2.k_,r2.Step,r2.H_,r2.Priority,r2.Passes,r2.f_,r2.c_,r2.Tw,r2.aae,r2.z_)))
def aw (jJ7:(Int)->Option (Aa×Int)):Option (Aa×Int):=
 jJ7 (-1:Int)
def J2 (r1:Ae×Bool) (r2:Aa) (abG:Int):Option ((Int)⊕(Unit⊕Int)):=
 (if(decide (abG<(r2.b_.length:Int))) then
  (idx r2.b_ abG).bind fun aMW=>
  (idx r2.b_ abG).bind fun aEy=>
  (if aEy.Id==r1.1.Id then
   some (.inr (.inr abG))
  else
   some (.inl (Ab (abG+1))))
 else
  some (.inr (.inl ())))
def EW (a0:Aa) (a1:Int) (a2:Int) (a3:Int) (a4:Bool):Option (Aa×Int):=
 (Pg a0 a1).bind fun r1=>
 (F8 a0).bind fun r2=>
 (some (if !r1.2 then true else decide (a2<0))).bind fun b3=>
 (some (if b3 then true else decide (5<a2))).bind fun b4=>
 (if b4 then
  none
 else
  jn (fun(v:Int)=>MR a2 a3 a4 r1 r2 v) (fun jJ7=>
  jn (fun(v:Unit)=>aw jJ7) (fun ayu=>
  (iter (fun(v:Int)=>J2 r1 r2 v) FU (0:Int)).bind (Sum.elim (fun o0=>ayu ()) (fun o1=>jJ7 o1)))))
def VY:A9:=mC [nB,KG,Wv,ZX,LV] 77 Tryz.f77 (.s .n (.s .n (.s (.r [] [] (.q 1 .co .n)) (.s (.s .n (.i .x .n)) (.s (.r [] [] (.c 2 (.s (.r [] [] (.g 0 (.ug [2,3,4,5,10,12,37]) .n)) (.s (.r [] [] (.c 3 (.s (.r [] [] (.g 0 (.ug [2,3,4,10]) .n)) (.s (.r [] [] (.j 3 ⟨[],[A0 8],[[2,37],[1,0,23],[2,0,23],[3,0,23],[3,37],[4,0,23],[4,37],[5],[5,0,23],[6,0,23],[10],[12],[16,0,23],[1000003,0,0,23]],[]⟩ (.s (.r [] [] (.g 0 (.ug [8]) .n)) (.j ⟨[],[],[[2,37],[1,0,23],[2,0,23],[3,0,23],[3,37],[4,0,23],[4,37],[5],[5,0,23],[6,0,23],[10],[12],[16,0,23],[1000003,0,0,23]],[]⟩ (.s .n (.l ⟨[0,1,7],[A0 8],[[1,0,23],[2,37],[2,0,23],[3,0,23],[3,10,37],[3,37],[4,0,23],[4,37],[5],[5,0,23],[6,0,23],[10],[12],[16,0,23],[1000003,0,0,23]],[]⟩ [(1,⟨[],[],[[2,37],[1,0,23],[2,0,23],[3,0,23],[3,37],[4,0,23],[4,37],[5],[5,0,23],[6,0,23],[10],[12],[16,0,23],[1000003,0,0,23]],[]⟩),(0,⟨[],[A0 4],[[2,37],[1,0,23],[2,0,23],[3,0,23],[3,37],[4,0,23],[4,37],[5],[5,0,23],[6,0,23],[10],[12],[16,0,23],[1000003,0,0,23]],[]⟩)] (.s .n (.s .n (.s (.s .n (.s (.r [] [] (.c 5 (.s (.r [] [] (.g 0 (.ug [0,1,5,7,8,16]) .n)) .n) .n)) .n)) .n))))) .n)) .n)) .n)) .n)) (.s (.r [] [] (.j 5 ⟨[2,3,4],[(16, .c (.c (.n_ [1,0,23])))],[[2,0,23],[3,0,23],[3,37],[4,0,23],[4,37],[5,0,23],[6,0,23],[10],[12],[16,0,23],[1000003,0,0,23]],[([1,0,23], .row 70),([2,37], .box [.c (.n_ [1000003,0,0,23]), .c (.any), .c (.n_ [2,0,23]), .c (.n_ [3,0,23]), .c (.n_ [4,0,23]), .c (.n_ [5,0,23]), .c (.n_ [6,0,23]),AD,AD,AD,B1,AD,AD,AD,AD, .v (.k (.int .u64)), .c (.n_ [16,0,23]),AD,AD]),([5], .box [.c (.n_ [1000003,0,0,23]), .c (.any), .c (.n_ [2,0,23]), .c (.n_ [3,0,23]), .c (.n_ [4,0,23]), .c (.n_ [5,0,23]), .c (.n_ [6,0,23]),AD,AD,AD,B1,AD,AD,AD,AD, .v (.k (.int .u64)), .c (.n_ [16,0,23]),AD,AD])]⟩ (.s (.r [] [] (.g 0 (.ug [2,3,4,16]) .n)) (.s (.r [] [] (.q 5 (.sub false) .n)) (.s .n (.s .n (.s (.r [] [] (.t (.q 2 (.sub true) (.q 5 (.sub true) (.q 6 .apb .n))))) (.s (.r [] [] (.q 4 (.sub true) (.q 5 .clr .n))) (.s (.r [] [] (.g 1 (.tr 32) .n)) .n))))))) .n)) (.j ⟨[2,3,4],[],[[2,37],[1,0,23],[2,0,23],[3,0,23],[3,37],[4,0,23],[4,37],[5],[5,0,23],[6,0,23],[10],[12],[16,0,23]],[([1000003,0,0,23], .deep 61)]⟩ (.s (.r [] [] (.c 4 (.s (.r [] [] (.g 0 (.ug [2,3,4,22]) .n)) (.s (.s .n (.s .n (.i .x (.s .n (.i .x .n))))) (.s (.s .n (.i .x .n)) (.s .n (.s (.s .n (.s .n (.i .n (.s .n (.i .n (.s .n (.i .x .n))))))) .x))))) .n)) (.s .n (.i (.r [] [] (.t (.q 3 .au (.q 6 .co (.q 8 .au .n))))) .n))) (.s (.r [] [] (.j 3 ⟨[2,4],[(36, .c (.c (.n_ [4,0,23])))],[[1,0,23],[2,0,23],[3,0,23],[4,37],[5,0,23],[6,0,23],[10],[12],[16,0,23],[1000003,0,0,23]],[([2,37], .box [.c (.n_ [1000003,0,0,23]), .c (.n_ [1,0,23]), .c (.n_ [2,0,23]), .c (.n_ [3,0,23]), .c (.any), .c (.n_ [5,0,23]), .c (.n_ [6,0,23]),AD,AD,AD,B1,AD,AD,AD,AD, .v (.k (.int .u64)), .c (.n_ [16,0,23]),AD,AD]),([4,0,23], .row 126),([5], .box [.c (.n_ [1000003,0,0,23]), .c (.any), .c (.n_ [2,0,23]), .c (.n_ [3,0,23]), .c (.any), .c (.n_ [5,0,23]), .c (.n_ [6,0,23]),AD,AD,AD,B1,AD,AD,AD,AD, .v (.k (.int .u64)), .c (.n_ [16,0,23]),AD,AD])]⟩ (.s (.r [] [] (.g 0 (.ug [2,4,36]) .n)) (.s (.r [] [] (.j 2 ⟨[0,1],[A0 10],[[2,37],[1,0,23],[2,0,23],[3,0,23],[3,37],[4,0,23],[4,37],[5],[5,0,23],[6,0,23],[10],[12],[16,0,23],[1000003,0,0,23]],[]⟩ (.s (.r [] [] (.g 0 (.ug [0,1,10]) .n)) (.j ⟨[],[],[[2,37],[1,0,23],[2,0,23],[3,0,23],[3,37],[4,0,23],[4,37],[5],[5,0,23],[6,0,23],[10],[12],[16,0,23],[1000003,0,0,23]],[]⟩ (.s .n (.l ⟨[0,1,7],[A0 8],[[2,37],[1,0,23],[2,0,23],[3,0,23],[3,37],[4,0,23],[4,37],[5],[5,0,23],[6,0,23],[10],[12],[16,0,23],[1000003,0,0,23]],[]⟩ [(1,⟨[],[],[[2,37],[1,0,23],[2,0,23],[3,0,23],[3,37],[4,0,23],[4,37],[5],[5,0,23],[6,0,23],[10],[12],[16,0,23],[1000003,0,0,23]],[]⟩),(0,⟨[],[A0 4],[[2,37],[1,0,23],[2,0,23],[3,0,23],[3,37],[4,0,23],[4,37],[5],[5,0,23],[6,0,23],[10],[12],[16,0,23],[1000003,0,0,23]],[]⟩)] (.s .n (.s .n (.s (.s .n (.s (.r [] [] (.c 5 (.s (.r [] [] (.g 0 (.ug [0,1,5,7,8,16]) .n)) .n) .n)) .n)) .n))))) .n)) .n)) (.s .n (.j ⟨[0],[A0 5],[[2,37],[1,0,23],[2,0,23],[3,0,23],[4,37],[5],[5,0,23],[6,0,23],[10],[12],[16,0,23],[1000003,0,0,23]],[([4,0,23], .row 126)]⟩ (.s .n (.l ⟨[0,1],[A0 5,A0 6],[[2,37],[1,0,23],[2,0,23],[3,0,23],[3,37],[4,37],[5],[5,0,23],[6,0,23],[10],[12],[16,0,23],[1000003,0,0,23]],[([4,0,23], .row 126)]⟩ [(1,⟨[0],[A0 5],[[2,37],[1,0,23],[2,0,23],[3,0,23],[4,37],[5],[5,0,23],[6,0,23],[10],[12],[16,0,23],[1000003,0,0,23]],[([4,0,23], .row 126)]⟩)] (.s .n (.j ⟨[0,1,6],[A0 5],[[2,37],[1,0,23],[2,0,23],[3,0,23],[3,37],[4,37],[5],[5,0,23],[6,0,23],[10],[12],[16,0,23],[1000003,0,0,23]],[([4,0,23], .row 126)]⟩ (.s .n (.s (.r [] [] (.c 2 (.s (.r [] [] (.g 0 (.ug [0,1,5,6,7,28]) .n)) .n) .n)) .n)) .n)))) (.s (.r [] [] (.q 2 (.sub true) (.q 3 .clr .n))) (.s (.r [] [] (.q 2 (.sub true) (.g 3 (.tr 41) .n))) .n)))))) .n)) .n))))) .n)) (.s (.s .n (.i (.s (.r [] [] (.g 0 (.fd [1000003,0,0,23]) .n)) .n) .n)) (.s .n (.s (.r [] [] (.c 2 (.s (.r [] [] (.g 0 (.ug [2,4,5,10,14,59]) .n)) (.s (.s (.r [] [] (.c 3 (.s (.r [] [] (.g 0 (.ug [2,3,4,10]) .n)) (.s (.r [] [] (.j 3 ⟨[],[A0 8],[[2,59],[1,0,23],[2,0,23],[3,0,23],[3,59],[4,0,23],[4,59],[5],[5,0,23],[6,0,23],[10],[14],[16,0,23],[1000003,0,0,23]],[]⟩ (.s (.r [] [] (.g 0 (.ug [8]) .n)) (.j ⟨[],[],[[2,59],[1,0,23],[2,0,23],[3,0,23],[3,59],[4,0,23],[4,59],[5],[5,0,23],[6,0,23],[10],[14],[16,0,23],[1000003,0,0,23]],[]⟩ (.s .n (.l ⟨[0,1,7],[A0 8],[[1,0,23],[2,59],[2,0,23],[3,0,23],[3,10,59],[3,59],[4,0,23],[4,59],[5],[5,0,23],[6,0,23],[10],[14],[16,0,23],[1000003,0,0,23]],[]⟩ [(1,⟨[],[],[[2,59],[1,0,23],[2,0,23],[3,0,23],[3,59],[4,0,23],[4,59],[5],[5,0,23],[6,0,23],[10],[14],[16,0,23],[1000003,0,0,23]],[]⟩),(0,⟨[],[A0 4],[[2,59],[1,0,23],[2,0,23],[3,0,23],[3,59],[4,0,23],[4,59],[5],[5,0,23],[6,0,23],[10],[14],[16,0,23],[1000003,0,0,23]],[]⟩)] (.s .n (.s .n (.s (.s .n (.s (.r [] [] (.c 5 (.s (.r [] [] (.g 0 (.ug [0,1,5,7,8,16]) .n)) .n) .n)) .n)) .n))))) .n)) .n)) .n)) .n)) (.s .n (.i .x .n))) (.s (.r [] [] (.j 3 ⟨[2,3,4],[A0 22],[[2,59],[1,0,23],[2,0,23],[3,0,23],[3,59],[4,0,23],[4,59],[5],[5,0,23],[6,0,23],[10],[14],[16,0,23],[1000003,0,0,23]],[]⟩ (.s (.r [] [] (.g 0 (.ug [2,3,4,22]) .n)) (.j ⟨[],[],[[2,59],[1,0,23],[2,0,23],[3,0,23],[3,59],[4,0,23],[4,59],[5],[5,0,23],[6,0,23],[10],[14],[16,0,23],[1000003,0,0,23]],[]⟩ (.s .n (.l ⟨[0,1,7],[A0 8],[[1,0,23],[2,59],[2,0,23],[3,0,23],[3,59],[4,0,23],[4,59],[5],[5,0,23],[6,0,23],[10],[14],[16,0,23],[1000003,0,0,23]],[]⟩ [(1,⟨[],[],[[2,59],[1,0,23],[2,0,23],[3,0,23],[3,59],[4,0,23],[4,59],[5],[5,0,23],[6,0,23],[10],[14],[16,0,23],[1000003,0,0,23]],[]⟩),(0,⟨[],[A0 4],[[2,59],[1,0,23],[2,0,23],[3,0,23],[3,59],[4,0,23],[4,59],[5],[5,0,23],[6,0,23],[10],[14],[16,0,23],[1000003,0,0,23]],[]⟩)] (.s .n (.s .n (.s (.s .n (.s (.r [] [] (.c 5 (.s (.r [] [] (.g 0 (.ug [0,1,5,7,8,16]) .n)) .n) .n)) .n)) .n))))) .n)) .n)) (.j ⟨[2,3,4],[A0 6],[[2,59],[1,0,23],[2,0,23],[3,0,23],[3,59],[4,0,23],[4,59],[5],[5,0,23],[6,0,23],[10],[14],[16,0,23],[1000003,0,0,23]],[]⟩ .n (.s (.r [] [] (.c 5 (.s (.r [] [] (.g 0 (.ug [2,4,33]) .n)) (.s (.r [] [] (.q 2 (.sub false) .n)) (.s .n (.s (.s .n (.i .x .n)) (.s .n (.s .n (.s .x .n))))))) .n)) .n))))) .n)) (.s .n (.s .n (.j ⟨[5,10,14],[],[[5],[1,0,23],[2,0,23],[3,0,23],[4,0,23],[5,0,23],[6,0,23],[10],[14],[16,0,23]],[([1000003,0,0,23], .deep 61)]⟩ (.s (.r [] [] (.c 3 (.s (.r [] [] (.g 0 (.ug [2,4,5,10,14,71]) .n)) (.s (.s .n (.s .n (.i .x (.s .n (.i .x .n))))) (.s (.s .n (.i .x .n)) (.s .n (.s (.s .n (.s .n (.i .n (.s .n (.i .n (.s .n (.i .x .n))))))) .x))))) .n)) (.s .n (.i (.s .n (.i (.r [] [] (.t (.q 3 .au (.q 7 .ins (.q 9 .au .n))))) (.r [] [] (.t (.q 3 .au (.q 9 .au .n)))))) .n))) (.s (.r [] [] (.t (.g 0 (.fd [1000003,0,0,23]) (.q 0 .lz .n)))) .n)))))))))))) [.s 36, .k (.int .i64), .k (.int .i64), .k (.int .i64), .k (.bool)] [.s 36, .k (.int .i64)] (fun x=>EW x.1 x.2.1 x.2.2.1 x.2.2.2.1 x.2.2.2.2.1) Tryz.func77 (by kernel_rfl)
def WG:Option (Bool):=
 some true
def WH (a0:Ac) (a1:List (Int)) (anN:Int) (ax8:List (Int)):Option ((Int×(List (Int)))⊕(Unit⊕Bool)):=
 (if(decide (anN<(a1.length:Int))) then
  (idx a1 anN).bind fun e10=>
  (idx a0.Options e10).bind fun e11=>
  (fN ax8 e11.A).bind fun r12=>
  (if r12 then
   some (.inr (.inr false))
  else
   (idx a0.Options e10).bind fun e14=>
   (app 8 ax8 ([e14.A]:List (Int))).bind fun l15=>
   some (.inl ((Ab (anN+1)),l15)))
 else
  some (.inr (.inl ())))
def SC (a0:Ac) (a1:List (Int)):Option (Bool):=
 jn (fun(v:Unit)=>WG) (fun jJ1=>
 (iter (fun(v:Int×(List (Int)))=>WH a0 a1 v.1 v.2) FU ((0:Int),([]:List (Int)))).bind (Sum.elim (fun o0=>jJ1 ()) (fun o1=>some o1)))
def ax:A9:=mC [nH] 123 Tryz.f123 (.s .n (.s .n (.j EN (.s .n (.l ⟨[2,8,9],[(5, .c (.c (.n_ [5]))),A0 10],[[2]],[([5], .row 3)]⟩ [(1,EN),(0,⟨[],[EO 4],[],[]⟩)] .n)) .n))) [.s 54, .k (.u_ 3)] [.k (.bool)] (fun x=>SC x.1 x.2.1) Tryz.func123 (by kernel_rfl)
def nJ (r1:Aa) (ao0:Int) (agR:List (Ap)):Option (Aa):=
 some (⟨agR,r1.b_,r1.l_,r1.T_,r1.Stack,r1.o_,r1.v_,r1.I_,r1.k_,r1.Step,r1.H_,r1.Priority,r1.Passes,r1.f_,r1.c_,r1.Tw,r1.Extra,r1.aae,r1.z_⟩:Aa)
def SD (a0:Aa) (a1:Int) (a2:Int) (a3:List (Int)):Option (Aa):=
 (F8 a0).bind fun r1=>
 jn (fun(v:Int×(List (Ap)))=>nJ r1 v.1 v.2) (fun jJ4=>
 (if a1==0 then
  none
 else if a1==4 then
  none
 else
  (some (if decide (a2<0) then true else decide ((r1.a_.length:Int)<=a2))).bind fun b7=>
  (if b7 then
   none
  else
   (idx r1.a_ a2).bind fun e9=>
   (if a1==1 then
    (if true then
     (Ao a3).bind fun r12=>
     (idx r1.a_ a2).bind fun e13=>
     (A1 (a2<((r1.a_.length:Nat):Int))).bind fun u14=>
     (some (r1.a_.set (a2).toNat ({e13 with Hand:=r12}))).bind fun l15=>
     jJ4 (((r1.a_.length:Nat):Int),l15)
    else
     jJ4 (((r1.a_.length:Nat):Int),r1.a_))
   else if a1==2 then
    (if true then
     (Ao a3).bind fun r18=>
     (idx r1.a_ a2).bind fun e19=>
     (A1 (a2<((r1.a_.length:Nat):Int))).bind fun u20=>
     (some (r1.a_.set (a2).toNat ({e19 with g_:=r18}))).bind fun l21=>
     jJ4 (((r1.a_.length:Nat):Int),l21)
    else
     jJ4 (((r1.a_.length:Nat):Int),r1.a_))
   else if a1==3 then
    none
   else
    none))))
def ro:A9:=mC [KG,BE] 82 Tryz.f82 (.s .n (.s (.r [] [] (.q 1 .co .n)) (.j ⟨[4,8],[],[[4],[1,0,11],[2,0,11],[3,0,11],[4,0,11],[5,0,11],[6,0,11],[8],[16,0,11]],[([1000003,0,0,11], .deep 61)]⟩ (.s (.r [] [] (.c 2 (.s (.r [] [] (.g 0 (.ug [3,4,8,14]) .n)) (.s (.s .n (.s .n (.i .x (.s .n (.i .x .n))))) (.s (.s .n (.i .x .n)) (.s .n (.s (.s .n (.s .n (.i .n (.s .n (.i .n (.s .n (.i .x .n))))))) .x))))) .n)) (.s .n (.i (.r [] [] (.q 2 .co (.q 4 .au .n))) .n))) (.s (.r [] [] (.g 0 (.fd [1000003,0,0,11]) .n)) .n)))) [.s 36, .k (.int .i64), .k (.int .i64), .k (.u_ 3)] [.s 36] (fun x=>SD x.1 x.2.1 x.2.2.1 x.2.2.2.1) Tryz.func82 (by kernel_rfl)
def WI (r5:Aa) (l9:List (Ae)) (axW:List (AE)):Option (Aa):=
 some (⟨r5.a_,l9,r5.l_,r5.T_,axW,r5.o_,r5.v_,r5.I_,r5.k_,r5.Step,r5.H_,r5.Priority,r5.Passes,r5.f_,r5.c_,r5.Tw,r5.Extra,r5.aae,r5.z_⟩:Aa)
def Nf (adw:Int) (axV:List (AE)):Option ((Int×(List (AE)))⊕((List (AE)))):=
 some (.inl ((Ab (adw+1)),axV))
def Ir (a1:Int) (r5:Aa) (adw:Int) (ara:List (AE)):Option ((Int×(List (AE)))⊕((List (AE)))):=
 (if(decide (adw<(r5.Stack.length:Int))) then
  jn (fun(v:(List (AE)))=>Nf adw v) (fun aiG=>
  (idx r5.Stack adw).bind fun e22=>
  (gd ((e22.Kind != 1)==false) (idx r5.Stack adw)).bind fun e23=>
  (some (if e22.Kind != 1 then true else e23.Id != a1)).bind fun b24=>
  (if b24 then
   (idx r5.Stack adw).bind fun e26=>
   (app 824 ara ([e26]:List (AE))).bind fun l27=>
   aiG l27
  else
   aiG ara))
 else
  some (.inr ara))
def F9 (a0:Aa) (a1:Int):Option (Aa):=
 (Ja a0 a1).bind fun r1=>
 (idx a0.b_ r1).bind fun e2=>
 (DO a0 e2.O_ e2.p_).bind fun r3=>
 (KC r3 a1).bind fun r4=>
 (IP a0 e2.O_ e2.p_ r4).bind fun r5=>
 (KS r5.b_ 0 r1).bind fun l6=>
 (app 128 ([]:List (Ae)) l6).bind fun l7=>
 (KS r5.b_ (Ab (r1+1)) (r5.b_.length:Int)).bind fun l8=>
 (app 128 l7 l8).bind fun l9=>
 jn (fun(v:(List (AE)))=>WI r5 l9 v) (fun ad1=>
 (iter (fun(v:Int×(List (AE)))=>Ir a1 r5 v.1 v.2) FU ((0:Int),([]:List (AE)))).bind (fun o0=>ad1 o0))
def cN:A9:=mC [Oj,MM,cq,UE] 176 Tryz.f176 (.s .n (.s .n (.s .n (.s (.r [] [] (.t (.q 0 .lz (.q 5 .lz (.q 10 .co .n))))) (.s .n (.s .n (.s .n (.j ⟨[4,7],[(9, .c (.c (.n_ [9])))],[[4],[7],[33]],[([9], .row 126)]⟩ (.s .n (.l ⟨[1,4,7],[(9, .c (.c (.n_ [9]))),A0 10],[[4],[7],[33]],[([9], .row 126)]⟩ [(1,⟨[4,7],[(9, .c (.c (.n_ [9])))],[[4],[7],[33]],[([9], .row 126)]⟩)] (.s .n (.j ⟨[1,4,7,10],[(9, .c (.c (.n_ [9])))],[[4],[7],[33]],[([9], .row 126)]⟩ .n .n)))) .n)))))))) [.s 36, .k (.int .i64)] [.s 36] (fun x=>F9 x.1 x.2.1) Tryz.func176 (by kernel_rfl)
end Go.PL
