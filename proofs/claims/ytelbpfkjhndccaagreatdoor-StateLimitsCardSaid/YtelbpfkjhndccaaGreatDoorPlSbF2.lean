/- Functions of the program, as partial functions in Lean, with proofs. -/
import Derived.Test.YtelbpfkjhndccaaGreatDoorPlSbB
namespace Go.PL
open Go Go.RowKit Go.Proofs
set_option maxRecDepth 100000
set_option linter.all false
set_option maxHeartbeats 4000000
attribute [local irreducible] Ai B4 BL
def Xu:Option (Bool):=
 some true
def Vs (a_t0_9:Int) (b_t1_10:Int) (i_t7_11:Int):Option ((Int×Int×Int)⊕(Unit⊕Unit)):=
 (if(decide (i_t7_11<6))=true then
  (some (if((Int.tmod a_t0_9 (2:Int))==(1:Int))=true then(Int.tmod b_t1_10 (2:Int))==(1:Int)else false)).bind fun b14=>
  (if b14=true then
   some (.inr (.inr ()))
  else
   some (.inl ((Ab (Int.tdiv a_t0_9 (2:Int))),(Ab (Int.tdiv b_t1_10 (2:Int))),(Ab (i_t7_11+1)))))
 else
  some (.inr (.inl ())))
def IE (a0:Int) (a1:Int) (a2:Int):Option (Bool):=
 (some (if(decide (a0<0))=true then true else decide (a2<a0))).bind fun b1=>
 (some (if b1=true then true else decide (a1<0))).bind fun b2=>
 (some (if b2=true then true else decide (a2<a1))).bind fun b3=>
 (if b3=true then
  some false
 else
  (iter (fun(v:Int×Int×Int)=>Vs v.1 v.2.1 v.2.2) FU (a0,a1,(0:Int))).bind (Sum.elim (fun o0=>Xu) (fun o1=>some false)))
def NE:Option ((List (List UInt8))):=
 some ([I9,Ik]:List (List UInt8))
def Xv:Option (Int):=
 some (-1:Int)
def Hs (a0:List (List UInt8)) (a1:List UInt8) (i_t5_3:Int):Option ((Int)⊕(Unit⊕Int)):=
 (if(decide (i_t5_3<(a0.length:Int)))=true then
  (idx a0 i_t5_3).bind fun e7=>
  (if(e7==a1)=true then
   some (.inr (.inr i_t5_3))
  else
   some (.inl (Ab (i_t5_3+1))))
 else
  some (.inr (.inl ())))
def Of (a0:List (List UInt8)) (a1:List UInt8):Option (Int):=
 (iter (fun(v:Int)=>Hs a0 a1 v) FU (0:Int)).bind (Sum.elim (fun o0=>Xv) (fun o1=>some o1))
def LH:Option ((List (List UInt8))):=
 some ([Df,DW,ED,Fk,Fl,GY]:List (List UInt8))
def L3 (a0:Ae):Option (Bool):=
 (some (if(decide (a0.Kind<0))=true then true else decide (3<a0.Kind))).bind fun b1=>
 (some (if b1=true then true else decide (a0.N<0))).bind fun b2=>
 (some (if b2=true then true else decide (1000000<a0.N))).bind fun b3=>
 (if b3=true then
  some false
 else
  (some (if(a0.Kind != 0)=true then true else a0.N==0)).bind fun b5=>
  some b5)
def IF (b1_1:Bx):Option (Bx):=
 some b1_1
def MC (a0:Bx) (vt24_10:Bool):Option (Bx):=
 (if vt24_10=true then
  IF ({{{a0 with Kind:=(0:Int)}with N:=(0:Int)}with M:=(0:Int)})
 else
  IF ({a0 with Kind:=(0:Int)}))
def NF (a0:Bx) (vt16_6:Bool):Option (Bx):=
 (if vt16_6=true then
  IF ({{a0 with Kind:=(0:Int)}with Sub:=([]:List UInt8)})
 else
  (if(a0.Kind==11)=true then
   IF ({{a0 with Kind:=(0:Int)}with Filter:=(⟨0,0,0,0,0,0,0,[],0,0,(⟨0,0⟩:Ae),(⟨0,0⟩:Ae),(⟨0,0⟩:Ae)⟩:Af)})
  else
   (if(a0.Kind==12)=true then
    MC a0 (a0.Kind==12)
   else
    MC a0 (a0.Kind==13))))
def G9 (a0:Bx) (vt8_3:Bool):Option (Bx):=
 (if vt8_3=true then
  IF ({{a0 with Kind:=(0:Int)}with N:=(0:Int)})
 else
  (if(a0.Kind==4)=true then
   NF a0 (a0.Kind==4)
  else
   NF a0 (a0.Kind==5)))
def Y2 (a0:Bx):Option (Bx):=
 (if(a0.Kind==2)=true then
  G9 a0 (a0.Kind==2)
 else
  (if(a0.Kind==3)=true then
   G9 a0 (a0.Kind==3)
  else
   (if(a0.Kind==6)=true then
    G9 a0 (a0.Kind==6)
   else
    (if(a0.Kind==7)=true then
     G9 a0 (a0.Kind==7)
    else
     (if(a0.Kind==8)=true then
      G9 a0 (a0.Kind==8)
     else
      G9 a0 (a0.Kind==9))))))
def QZ (a0:Int):Option (Bool):=
 (some (if(decide (1≤a0))=true then decide (a0≤63)else false)).bind fun b1=>
 (some (if b1=true then(Nc .i64 a0 (6:Int))==(0:Int)else false)).bind fun b2=>
 some b2
def aI (mask_t0_1:Int):Option (Bool):=
 some ((Int.tmod mask_t0_1 (2:Int))==(1:Int))
def aJ (a1:Int) (mask_t0_5:Int) (k_t5_6:Int):Option ((Int×Int)⊕(Int)):=
 (if(decide (k_t5_6<a1))=true then
  some (.inl ((Ab (Int.tdiv mask_t0_5 (2:Int))),(Ab (k_t5_6+1))))
 else
  some (.inr mask_t0_5))
def hD (a0:Int) (a1:Int):Option (Bool):=
 (iter (fun(v:Int×Int)=>aJ a1 v.1 v.2) FU (a0,(0:Int))).bind (fun o0=>aI o0)
def aK (a0:Int):Option (Bool):=
 (some (if(decide (0≤a0))=true then decide (a0≤31)else false)).bind fun b1=>
 some b1
def P5 (a0:Int):Option ((List UInt8)):=
 (if(a0==0)=true then
  some dm
 else
  (if(a0==1)=true then
   some ar
  else
   (if(a0==2)=true then
    some g5
   else
    (if(a0==3)=true then
     some fe
    else
     (if(a0==4)=true then
      some YQ
     else
      some ([]:List UInt8))))))
def aL (a0:Int):Option (Bool):=
 (some (if(decide (0≤a0))=true then decide (a0≤131071)else false)).bind fun b1=>
 some b1
def dt:Option ((List (List UInt8))):=
 some ([Il,Ja,Jb,FT,GZ,QV,P1,Im,FV,In,FW,Io,Ip,G0,Vl,FX,R8]:List (List UInt8))
def Vt:Option ((List (List UInt8))):=
 some ([([]:List UInt8),Lj,IP,Hi,J9,Ka]:List (List UInt8))
def Xw:Option ((List (List UInt8))):=
 some ([([]:List UInt8),ID,G1]:List (List UInt8))
def Vu:Option ((List (List UInt8))):=
 some ([([]:List UInt8),KR,Jd]:List (List UInt8))
def Xx:Option ((List (List UInt8))):=
 some ([([]:List UInt8),FY,Ej]:List (List UInt8))
def aM (mask_t0_1:Int):Option (Bool):=
 some ((Int.tmod mask_t0_1 (2:Int))==(1:Int))
def Up (a1:Int) (mask_t0_5:Int) (k_t5_6:Int):Option ((Int×Int)⊕(Int)):=
 (if(decide (k_t5_6<a1))=true then
  some (.inl ((Ab (Int.tdiv mask_t0_5 (2:Int))),(Ab (k_t5_6+1))))
 else
  some (.inr mask_t0_5))
def MD (a0:Int) (a1:Int):Option (Bool):=
 (iter (fun(v:Int×Int)=>Up a1 v.1 v.2) FU (a0,(0:Int))).bind (fun o0=>aM o0)
def du:Option ((List (List UInt8))):=
 some ([([]:List UInt8),Kt,Ku,N7]:List (List UInt8))
def Vv (s_t3_2:List UInt8):Option ((List UInt8)):=
 some s_t3_2
def Vw (u_t0_6:Int) (s_t3_7:List UInt8):Option ((Int×(List UInt8))⊕((List UInt8))):=
 (if(decide (0<u_t0_6))=true then
  (need (∀ n∈([IntKind.u8.wrap (IntKind.u64.wrap ((48:Int)+(Int.tmod u_t0_6 (10:Int))))]:List (Int)),0≤n∧n<256)).bind fun u11=>
  (cat (QR ([IntKind.u8.wrap (IntKind.u64.wrap ((48:Int)+(Int.tmod u_t0_6 (10:Int))))]:List (Int))) s_t3_7).bind fun s12=>
  some (.inl ((IntKind.u64.wrap (Int.tdiv u_t0_6 (10:Int))),s12))
 else
  some (.inr s_t3_7))
def Uq (a0:Int):Option ((List UInt8)):=
 (need (∀ n∈([IntKind.u8.wrap (IntKind.u64.wrap ((48:Int)+(Int.tmod a0 (10:Int))))]:List (Int)),0≤n∧n<256)).bind fun u1=>
 (iter (fun(v:Int×(List UInt8))=>Vw v.1 v.2) FU ((IntKind.u64.wrap (Int.tdiv a0 (10:Int))),(QR ([IntKind.u8.wrap (IntKind.u64.wrap ((48:Int)+(Int.tmod a0 (10:Int))))]:List (Int))))).bind (fun o0=>Vv o0)
def RS (s_t5_1:List UInt8):Option ((List UInt8)):=
 some s_t5_1
def Kd (a0:List (List UInt8)) (i_t6_6:Int) (s_t5_10:List UInt8):Option (((List UInt8)×Int)⊕((List UInt8))):=
 (idx a0 i_t6_6).bind fun e12=>
 (cat s_t5_10 e12).bind fun s13=>
 some (.inl (s13,(Ab (i_t6_6+1))))
def RT (a0:List (List UInt8)) (a1:List UInt8) (s_t5_5:List UInt8) (i_t6_6:Int):Option (((List UInt8)×Int)⊕((List UInt8))):=
 (if(decide (i_t6_6<(a0.length:Int)))=true then
  (if(decide (0<i_t6_6))=true then
   (cat s_t5_5 a1).bind fun s15=>
   Kd a0 i_t6_6 s15
  else
   Kd a0 i_t6_6 s_t5_5)
 else
  some (.inr s_t5_5))
def Ur (a0:List (List UInt8)) (a1:List UInt8):Option ((List UInt8)):=
 (iter (fun(v:(List UInt8)×Int)=>RT a0 a1 v.1 v.2) FU (([]:List UInt8),(0:Int))).bind (fun o0=>RS o0)
def Wz:Option (Bool):=
 some true
def Gy (a0:A1) (i_t3_7:Int):Option ((Int)⊕(Unit⊕Unit)):=
 (if(decide (i_t3_7<5))=true then
  (idx a0.Color.l i_t3_7).bind fun e10=>
  (gd ((decide (e10<0))==false) (idx a0.Color.l i_t3_7)).bind fun e11=>
  (some (if(decide (e10<0))=true then true else decide (9<e11))).bind fun b12=>
  (if b12=true then
   some (.inr (.inr ()))
  else
   some (.inl (Ab (i_t3_7+1))))
 else
  some (.inr (.inl ())))
def Xy (a0:A1):Option (Bool):=
 (some (if(decide (a0.Generic<0))=true then true else decide (99<a0.Generic))).bind fun b1=>
 (some (if b1=true then true else decide (a0.X<0))).bind fun b2=>
 (some (if b2=true then true else decide (2<a0.X))).bind fun b3=>
 (if b3=true then
  some false
 else
  (iter (fun(v:Int)=>Gy a0 v) FU (0:Int)).bind (Sum.elim (fun o0=>Wz) (fun o1=>some false)))
def K0 (a0:Int):Option ((List UInt8)):=
 (if(a0==1)=true then
  some T9
 else
  (if(a0==2)=true then
   some Ua
  else
   (if(a0==3)=true then
    some YR
   else
    (if(a0==4)=true then
     some RR
    else
     (if(a0==5)=true then
      some Ub
     else
      (if(a0==6)=true then
       some Wt
      else
       (if(a0==7)=true then
        some Wu
       else
        (if(a0==8)=true then
         some Wv
        else
         (if(a0==9)=true then
          some Ww
         else
          (if(a0==10)=true then
           some Uc
          else
           (if(a0==11)=true then
            some bZ
           else
            (if(a0==12)=true then
             some Wx
            else
             (if(a0==13)=true then
              some Wy
             else
              (if(a0==14)=true then
               some Ud
              else
               some ([]:List UInt8)))))))))))))))
def ME (a0:Int):Option (Bool):=
 (some (if(a0==8)=true then true else a0==9)).bind fun b1=>
 (some (if b1=true then true else a0==10)).bind fun b2=>
 (some (if b2=true then true else a0==11)).bind fun b3=>
 (some (if b3=true then true else a0==12)).bind fun b4=>
 (some (if b4=true then true else a0==13)).bind fun b5=>
 some b5
def L4 (a0:AJ):Option (Bool):=
 (some (if(a0.Zone != 0)=true then true else a0.Counter != 0)).bind fun b1=>
 (if b1=true then
  some false
 else
  (some (if(a0.Do==2)=true then true else a0.Do==4)).bind fun b3=>
  (if b3=true then
   (some (if(decide (1≤a0.N))=true then decide (a0.N≤99)else false)).bind fun b5=>
   some b5
  else
   some (a0.N==0)))
def NG (a0:Int):Option ((List UInt8)):=
 (some (if(decide (a0<1))=true then true else decide (26<a0))).bind fun b1=>
 (if b1=true then
  some ([]:List UInt8)
 else
  (idx ([Ms,Ll,PQ,PR,Lm,PS,PT,N9,Oa,S6,PU,Mt,S7,PV,Ln,PW,Mu,Gu,PX,PY,Mv,Mw,PZ,S8,Mx,Ob]:List (List UInt8)) (Ab (a0 - 1))).bind fun e3=>
  some e3)
def P6 (vt29_14:Bool):Option ((List UInt8)):=
 (if vt29_14=true then
  some ([]:List UInt8)
 else
  some kP)
def RU (a0:Int) (vt14_5:Bool):Option ((List UInt8)):=
 (if vt14_5=true then
  some g8
 else
  (if(a0==12)=true then
   some g9
  else
   (if(a0==13)=true then
    some kO
   else
    (if(a0==14)=true then
     some mS
    else
     (if(a0==18)=true then
      some hC
     else
      (if(a0==20)=true then
       some mT
      else
       (if(a0==21)=true then
        some mU
       else
        (if(a0==23)=true then
         P6 (a0==23)
        else
         P6 (a0==24)))))))))
def Ha (a0:Int) (vt4_1:Bool):Option ((List UInt8)):=
 (if vt4_1=true then
  some mR
 else
  (if(a0==3)=true then
   some kN
  else
   (if(a0==10)=true then
    RU a0 (a0==10)
   else
    RU a0 (a0==11))))
def fm (a0:Int):Option ((List UInt8)):=
 (if(a0==2)=true then
  Ha a0 (a0==2)
 else
  (if(a0==8)=true then
   Ha a0 (a0==8)
  else
   (if(a0==9)=true then
    Ha a0 (a0==9)
   else
    (if(a0==15)=true then
     Ha a0 (a0==15)
    else
     (if(a0==16)=true then
      Ha a0 (a0==16)
     else
      (if(a0==17)=true then
       Ha a0 (a0==17)
      else
       Ha a0 (a0==25)))))))
def P7 (a0:Int):Option (Bool):=
 (some (if(a0==3)=true then true else a0==8)).bind fun b1=>
 some b1
def P8 (a0:Int):Option ((List UInt8)):=
 (if(a0==0)=true then
  some ff
 else
  (if(a0==1)=true then
   some dn
  else
   (if(a0==2)=true then
    some au
   else
    some ([]:List UInt8))))
def Y3 (b3_2:A1):Option (A1):=
 some b3_2
def Y4 (a0:A6 (Int)) (i_t4_6:Int) (b3_7:A1):Option ((Int×A1)⊕(A1)):=
 (if(decide (i_t4_6<5))=true then
  (idx a0.l (Ab (i_t4_6+1))).bind fun e11=>
  (idx b3_7.Color.l i_t4_6).bind fun e12=>
  some (.inl ((Ab (i_t4_6+1)),({b3_7 with Color:=b3_7.Color.set (i_t4_6).toNat e11})))
 else
  some (.inr b3_7))
def Y5 (a0:A6 (Int)):Option (A1):=
 (idx a0.l (0:Int)).bind fun e1=>
 (iter (fun(v:Int×A1)=>Y4 a0 v.1 v.2) FU ((0:Int),(⟨e1,0,(⟨0,0,0,0,0⟩:A5 (Int))⟩:A1))).bind (fun o0=>Y3 o0)
end Go.PL
