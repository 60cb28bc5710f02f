/- Functions of the program, as partial functions in Lean, with proofs. -/
import Derived.Test.YtiddnfpjgojoaaaGreatDoorPlEdB
namespace Go.PL
open Go Go.RowKit Go.Proofs
set_option maxRecDepth 100000
set_option linter.all false
set_option maxHeartbeats 4000000
attribute [local irreducible] Aj BO Bz
def QJ (a0:Int):Option (Bool):=
 (some (if(decide (97≤a0))=true then decide (a0≤122)else false)).bind fun b1=>
 some b1
def pp:CE TE Tryz.prog I0:=AK [] Ab Ad 9 76 Tryz.f76 (Tryz.f76.body.getD .skip) .n [.k (.int .u8)] [.k (.bool)] (fun x=>QJ x.1) Tryz.func76 rfl (by kernel_rfl)
def pq:Option (Bool):=
 some true
def bp (a0:Bs) (i_t3_7:Int):Option ((Int)⊕(Unit⊕Bool)):=
 (if(decide (i_t3_7<5))=true then
  (idx a0.Color.l i_t3_7).bind fun e11=>
  (idx a0.Color.l i_t3_7).bind fun e12=>
  (gd ((decide (e12<0))==false) (idx a0.Color.l i_t3_7)).bind fun e13=>
  (gd ((decide (e12<0))==false) (idx a0.Color.l i_t3_7)).bind fun e14=>
  (some (if(decide (e12<0))=true then true else decide (9<e14))).bind fun b15=>
  (if b15=true then
   some (.inr (.inr false))
  else
   some (.inl (Ac (i_t3_7+1))))
 else
  some (.inr (.inl ())))
def MH (a0:Bs):Option (Bool):=
 (some (if(decide (a0.Generic<0))=true then true else decide (99<a0.Generic))).bind fun b1=>
 (some (if b1=true then true else decide (a0.X<0))).bind fun b2=>
 (some (if b2=true then true else decide (2<a0.X))).bind fun b3=>
 (if b3=true then
  some false
 else
  jn (fun(v:Unit)=>pq) (fun jJ5=>
  (iter (fun(v:Int)=>bp a0 v) FU (0:Int)).bind (Sum.elim (fun o0=>jJ5 ()) (fun o1=>some o1))))
def MI:CE TE Tryz.prog I0:=AK [] Ab Ad 9 44 Tryz.f44 (Tryz.f44.body.getD .skip) (.s .n (.s .n (.j ⟨[],[],[],[]⟩ (.s .n (.l ⟨[1],[(3, .c (.v (.k (.int .i64))))],[[1]],[]⟩ [(1,⟨[],[],[],[]⟩),(0,⟨[],[(2, .c (.v (.k (.bool))))],[],[]⟩)] .n)) .n))) [.s 64] [.k (.bool)] (fun x=>MH x.1) Tryz.func44 rfl (by kernel_rfl)
def E8:Option ((List (List UInt8))):=
 some ([aX,Xs]:List (List UInt8))
def SJ:CE TE Tryz.prog I0:=AK [] Ab Ad 9 113 Tryz.f113 (Tryz.f113.body.getD .skip) .n [] [.k (.lst 9)] (fun x=>E8) Tryz.func113 rfl (by kernel_rfl)
def de:Option (Int):=
 some (-1:Int)
def QK (a0:List (List UInt8)) (a1:List UInt8) (i_t5_3:Int):Option ((Int)⊕(Unit⊕Int)):=
 (if(decide (i_t5_3<(a0.length:Int)))=true then
  (idx a0 i_t5_3).bind fun e7=>
  (if(e7==a1)=true then
   some (.inr (.inr i_t5_3))
  else
   some (.inl (Ac (i_t5_3+1))))
 else
  some (.inr (.inl ())))
def Hq (a0:List (List UInt8)) (a1:List UInt8):Option (Int):=
 jn (fun(v:Unit)=>de) (fun jJ1=>
 (iter (fun(v:Int)=>QK a0 a1 v) FU (0:Int)).bind (Sum.elim (fun o0=>jJ1 ()) (fun o1=>some o1)))
def UJ:CE TE Tryz.prog I0:=AK [] Ab Ad 9 112 Tryz.f112 (Tryz.f112.body.getD .skip) (.s .n (.j ⟨[],[],[],[]⟩ (.s .n (.l ⟨[0,1],[(5, .c (.v (.k (.int .i64))))],[],[]⟩ [(1,⟨[],[],[],[]⟩),(0,⟨[],[(4, .c (.v (.k (.int .i64))))],[],[]⟩)] .n)) .n)) [.k (.lst 9), .k (.str)] [.k (.int .i64)] (fun x=>Hq x.1 x.2.1) Tryz.func112 rfl (by kernel_rfl)
def Es:Option ((List (List UInt8))):=
 some ([Qv,UC,Xt,aY,aZ,gM]:List (List UInt8))
def LI:CE TE Tryz.prog I0:=AK [] Ab Ad 9 114 Tryz.f114 (Tryz.f114.body.getD .skip) .n [] [.k (.lst 9)] (fun x=>Es) Tryz.func114 rfl (by kernel_rfl)
def lj (mask_t0_1:Int):Option (Bool):=
 some ((Int.tmod mask_t0_1 (2:Int))==(1:Int))
def PA (a1:Int) (mask_t0_5:Int) (k_t5_6:Int):Option ((Int×Int)⊕(Int)):=
 (if(decide (k_t5_6<a1))=true then
  some (.inl ((Ac (Int.tdiv mask_t0_5 (2:Int))),(Ac (k_t5_6+1))))
 else
  some (.inr mask_t0_5))
def N0 (a0:Int) (a1:Int):Option (Bool):=
 jn (fun(v:Int)=>lj v) (fun jJ2=>
 (iter (fun(v:Int×Int)=>PA a1 v.1 v.2) FU (a0,(0:Int))).bind (fun o0=>jJ2 o0))
def br:CE TE Tryz.prog I0:=AK [] Ab Ad 9 78 Tryz.f78 (Tryz.f78.body.getD .skip) (.s .n (.j ⟨[],[(0, .c (.v (.k (.int .i64))))],[],[]⟩ (.s .n (.l ⟨[1],[(0, .c (.v (.k (.int .i64)))),(5, .c (.v (.k (.int .i64))))],[],[]⟩ [(1,⟨[],[(0, .c (.v (.k (.int .i64))))],[],[]⟩)] .n)) .n)) [.k (.int .i64), .k (.int .i64)] [.k (.bool)] (fun x=>N0 x.1 x.2.1) Tryz.func78 rfl (by kernel_rfl)
def XF (a0:Int):Option (Bool):=
 (some (if(decide (0≤a0))=true then decide (a0≤131071)else false)).bind fun b1=>
 some b1
def gR:CE TE Tryz.prog I0:=AK [] Ab Ad 9 46 Tryz.f46 (Tryz.f46.body.getD .skip) .n [.k (.int .i64)] [.k (.bool)] (fun x=>XF x.1) Tryz.func46 rfl (by kernel_rfl)
def G9 (a0:A1):Option (Bool):=
 some ((eN .i64 a0.Line.Types (1:Int)) != (0:Int))
def XG:CE TE Tryz.prog I0:=AK [] Ab Ad 9 47 Tryz.f47 (Tryz.f47.body.getD .skip) .n [.s 73] [.k (.bool)] (fun x=>G9 x.1) Tryz.func47 rfl (by kernel_rfl)
def df:Option (Bool):=
 some true
def Jv (a_t0_9:Int) (b_t1_10:Int) (i_t7_11:Int):Option ((Int×Int×Int)⊕(Unit⊕Bool)):=
 (if(decide (i_t7_11<6))=true then
  (some (if((Int.tmod a_t0_9 (2:Int))==(1:Int))=true then(Int.tmod b_t1_10 (2:Int))==(1:Int)else false)).bind fun b15=>
  (if b15=true then
   some (.inr (.inr false))
  else
   some (.inl ((Ac (Int.tdiv a_t0_9 (2:Int))),(Ac (Int.tdiv b_t1_10 (2:Int))),(Ac (i_t7_11+1)))))
 else
  some (.inr (.inl ())))
def Ke (a0:Int) (a1:Int) (a2:Int):Option (Bool):=
 (some (if(decide (a0<0))=true then true else decide (a2<a0))).bind fun b1=>
 (some (if b1=true then true else decide (a1<0))).bind fun b2=>
 (some (if b2=true then true else decide (a2<a1))).bind fun b3=>
 (if b3=true then
  some false
 else
  jn (fun(v:Unit)=>df) (fun jJ5=>
  (iter (fun(v:Int×Int×Int)=>Jv v.1 v.2.1 v.2.2) FU (a0,a1,(0:Int))).bind (Sum.elim (fun o0=>jJ5 ()) (fun o1=>some o1))))
def gS:CE TE Tryz.prog I0:=AK [] Ab Ad 9 115 Tryz.f115 (Tryz.f115.body.getD .skip) (.s .n (.s .n (.j ⟨[],[],[],[]⟩ (.s .n (.l ⟨[],[(0, .c (.v (.k (.int .i64)))),(1, .c (.v (.k (.int .i64)))),(7, .c (.v (.k (.int .i64))))],[],[]⟩ [(1,⟨[],[],[],[]⟩),(0,⟨[],[(6, .c (.v (.k (.bool))))],[],[]⟩)] .n)) .n))) [.k (.int .i64), .k (.int .i64), .k (.int .i64)] [.k (.bool)] (fun x=>Ke x.1 x.2.1 x.2.2.1) Tryz.func115 rfl (by kernel_rfl)
def Hr (a0:Az):Option (Bool):=
 (some (if(decide (a0.Kind<0))=true then true else decide (3<a0.Kind))).bind fun b1=>
 (some (if b1=true then true else decide (a0.N<0))).bind fun b2=>
 (some (if b2=true then true else decide (1000000<a0.N))).bind fun b3=>
 (if b3=true then
  some false
 else
  (some (if(a0.Kind != 0)=true then true else a0.N==0)).bind fun b5=>
  some b5)
def gU:CE TE Tryz.prog I0:=AK [] Ab Ad 9 116 Tryz.f116 (Tryz.f116.body.getD .skip) .n [.s 90] [.k (.bool)] (fun x=>Hr x.1) Tryz.func116 rfl (by kernel_rfl)
def gV (b1_1:BI):Option (BI):=
 some b1_1
def AW (a0:BI) (jJ2:(BI)→Option (BI)) (vt24_10:Bool):Option (BI):=
 (if vt24_10=true then
  jJ2 ({{{a0 with Kind:=(0:Int)}with N:=(0:Int)}with M:=(0:Int)})
 else
  jJ2 ({a0 with Kind:=(0:Int)}))
def BU (a0:BI) (jJ2:(BI)→Option (BI)) (vt16_6:Bool):Option (BI):=
 (if vt16_6=true then
  jJ2 ({{a0 with Kind:=(0:Int)}with Sub:=([]:List UInt8)})
 else
  (if(a0.Kind==11)=true then
   jJ2 ({{a0 with Kind:=(0:Int)}with Filter:=(⟨0,0,0,0,0,0,0,[],0,0,(⟨0,0⟩:Az),(⟨0,0⟩:Az),(⟨0,0⟩:Az)⟩:Ar)})
  else
   jn (fun(v:Bool)=>AW a0 jJ2 v) (fun jJ11=>
   (if(a0.Kind==12)=true then
    jJ11 (a0.Kind==12)
   else
    jJ11 (a0.Kind==13)))))
def DR (a0:BI) (jJ2:(BI)→Option (BI)) (vt8_3:Bool):Option (BI):=
 (if vt8_3=true then
  jJ2 ({{a0 with Kind:=(0:Int)}with N:=(0:Int)})
 else
  jn (fun(v:Bool)=>BU a0 jJ2 v) (fun jJ7=>
  (if(a0.Kind==4)=true then
   jJ7 (a0.Kind==4)
  else
   jJ7 (a0.Kind==5))))
def QL (a0:BI):Option (BI):=
 jn (fun(v:BI)=>gV v) (fun jJ2=>
 jn (fun(v:Bool)=>DR a0 jJ2 v) (fun jJ4=>
 (if(a0.Kind==2)=true then
  jJ4 (a0.Kind==2)
 else
  (if(a0.Kind==3)=true then
   jJ4 (a0.Kind==3)
  else
   (if(a0.Kind==6)=true then
    jJ4 (a0.Kind==6)
   else
    (if(a0.Kind==7)=true then
     jJ4 (a0.Kind==7)
    else
     (if(a0.Kind==8)=true then
      jJ4 (a0.Kind==8)
     else
      jJ4 (a0.Kind==9))))))))
def ll:CE TE Tryz.prog I0:=AK [] Ab Ad 9 129 Tryz.f129 (Tryz.f129.body.getD .skip) (.s .n (.s .n (.s .n (.j ⟨[1,2],[],[[2]],[([1], .box [.v (.s 151)])]⟩ (.s .n (.j ⟨[1,2,7],[(8, .c (.v (.k (.bool))))],[[1],[2]],[]⟩ .n (.i .n (.j ⟨[1,2,7],[(16, .c (.v (.k (.bool))))],[[1],[2]],[]⟩ .n (.i .n (.s .n (.i .n (.j ⟨[1,2],[(24, .c (.v (.k (.bool))))],[[1],[2]],[]⟩ .n .n)))))))) .n)))) [.s 151] [.s 151] (fun x=>QL x.1) Tryz.func129 rfl (by kernel_rfl)
def N1 (a0:Int):Option (Bool):=
 (some (if(decide (1≤a0))=true then decide (a0≤63)else false)).bind fun b1=>
 (some (if b1=true then(eN .i64 a0 (6:Int))==(0:Int)else false)).bind fun b2=>
 some b2
def gW:CE TE Tryz.prog I0:=AK [] Ab Ad 9 130 Tryz.f130 (Tryz.f130.body.getD .skip) .n [.k (.int .i64)] [.k (.bool)] (fun x=>N1 x.1) Tryz.func130 rfl (by kernel_rfl)
def dg (a0:Int):Option (Bool):=
 (some (if(decide (0≤a0))=true then decide (a0≤31)else false)).bind fun b1=>
 some b1
def rT:CE TE Tryz.prog I0:=AK [] Ab Ad 9 163 Tryz.f163 (Tryz.f163.body.getD .skip) .n [.k (.int .i64)] [.k (.bool)] (fun x=>dg x.1) Tryz.func163 rfl (by kernel_rfl)
def Kf (a0:Int):Option ((List UInt8)):=
 (if(a0==0)=true then
  some a6
 else
  (if(a0==1)=true then
   some Xv
  else
   (if(a0==2)=true then
    some nL
   else
    (if(a0==3)=true then
     some gN
    else
     (if(a0==4)=true then
      some UE
     else
      some ([]:List UInt8))))))
def XH:CE TE Tryz.prog I0:=AK [] Ab Ad 9 164 Tryz.f164 (Tryz.f164.body.getD .skip) .n [.k (.int .i64)] [.k (.str)] (fun x=>Kf x.1) Tryz.func164 rfl (by kernel_rfl)
def N2:Option ((List (List UInt8))):=
 some ([Xw,a7,a8,Qx,UF,J5,IZ,Xx,Qy,Xy,Qz,Xz,XA,UG,OE,QA,LH]:List (List UInt8))
def gX:CE TE Tryz.prog I0:=AK [] Ab Ad 9 186 Tryz.f186 (Tryz.f186.body.getD .skip) .n [] [.k (.lst 9)] (fun x=>N2) Tryz.func186 rfl (by kernel_rfl)
def F7:Option ((List (List UInt8))):=
 some ([([]:List UInt8),UH,ME,J6,QB,QC]:List (List UInt8))
def Va:CE TE Tryz.prog I0:=AK [] Ab Ad 9 166 Tryz.f166 (Tryz.f166.body.getD .skip) .n [] [.k (.lst 9)] (fun x=>F7) Tryz.func166 rfl (by kernel_rfl)
def Hb:Option ((List (List UInt8))):=
 some ([([]:List UInt8),bb,XB]:List (List UInt8))
def XI:CE TE Tryz.prog I0:=AK [] Ab Ad 9 167 Tryz.f167 (Tryz.f167.body.getD .skip) .n [] [.k (.lst 9)] (fun x=>Hb) Tryz.func167 rfl (by kernel_rfl)
def F8:Option ((List (List UInt8))):=
 some ([([]:List UInt8),gO,bc]:List (List UInt8))
def Vb:CE TE Tryz.prog I0:=AK [] Ab Ad 9 168 Tryz.f168 (Tryz.f168.body.getD .skip) .n [] [.k (.lst 9)] (fun x=>F8) Tryz.func168 rfl (by kernel_rfl)
def Hc:Option ((List (List UInt8))):=
 some ([([]:List UInt8),XC,QD]:List (List UInt8))
def XJ:CE TE Tryz.prog I0:=AK [] Ab Ad 9 169 Tryz.f169 (Tryz.f169.body.getD .skip) .n [] [.k (.lst 9)] (fun x=>Hc) Tryz.func169 rfl (by kernel_rfl)
def lm (mask_t0_1:Int):Option (Bool):=
 some ((Int.tmod mask_t0_1 (2:Int))==(1:Int))
def PB (a1:Int) (mask_t0_5:Int) (k_t5_6:Int):Option ((Int×Int)⊕(Int)):=
 (if(decide (k_t5_6<a1))=true then
  some (.inl ((Ac (Int.tdiv mask_t0_5 (2:Int))),(Ac (k_t5_6+1))))
 else
  some (.inr mask_t0_5))
def I4 (a0:Int) (a1:Int):Option (Bool):=
 jn (fun(v:Int)=>lm v) (fun jJ2=>
 (iter (fun(v:Int×Int)=>PB a1 v.1 v.2) FU (a0,(0:Int))).bind (fun o0=>jJ2 o0))
def pt:CE TE Tryz.prog I0:=AK [] Ab Ad 9 171 Tryz.f171 (Tryz.f171.body.getD .skip) (.s .n (.j ⟨[],[(0, .c (.v (.k (.int .i64))))],[],[]⟩ (.s .n (.l ⟨[1],[(0, .c (.v (.k (.int .i64)))),(5, .c (.v (.k (.int .i64))))],[],[]⟩ [(1,⟨[],[(0, .c (.v (.k (.int .i64))))],[],[]⟩)] .n)) .n)) [.k (.int .i64), .k (.int .i64)] [.k (.bool)] (fun x=>I4 x.1 x.2.1) Tryz.func171 rfl (by kernel_rfl)
def N3:Option ((List (List UInt8))):=
 some ([([]:List UInt8),bf,bh,nM]:List (List UInt8))
def gY:CE TE Tryz.prog I0:=AK [] Ab Ad 9 187 Tryz.f187 (Tryz.f187.body.getD .skip) .n [] [.k (.lst 9)] (fun x=>N3) Tryz.func187 rfl (by kernel_rfl)
def F9 (s_t3_2:List UInt8):Option ((List UInt8)):=
 some s_t3_2
def Jw (u_t0_6:Int) (s_t3_7:List UInt8):Option ((Int×(List UInt8))⊕((List UInt8))):=
 (if(decide (0<u_t0_6))=true then
  (need (∀ n∈([IntKind.u8.wrap (IntKind.u64.wrap ((48:Int)+(Int.tmod u_t0_6 (10:Int))))]:List (Int)),0≤n∧n<256)).bind fun u11=>
  (cat (HN ([IntKind.u8.wrap (IntKind.u64.wrap ((48:Int)+(Int.tmod u_t0_6 (10:Int))))]:List (Int))) s_t3_7).bind fun s12=>
  some (.inl ((IntKind.u64.wrap (Int.tdiv u_t0_6 (10:Int))),s12))
 else
  some (.inr s_t3_7))
def EI (a0:Int):Option ((List UInt8)):=
 (need (∀ n∈([IntKind.u8.wrap (IntKind.u64.wrap ((48:Int)+(Int.tmod a0 (10:Int))))]:List (Int)),0≤n∧n<256)).bind fun u1=>
 (iter (fun(v:Int×(List UInt8))=>Jw v.1 v.2) FU ((IntKind.u64.wrap (Int.tdiv a0 (10:Int))),(HN ([IntKind.u8.wrap (IntKind.u64.wrap ((48:Int)+(Int.tmod a0 (10:Int))))]:List (Int))))).bind (fun o0=>F9 o0)
def dh (a0:Int) (r:(List UInt8)):Prop:=AQ Tryz.prog I0 175 [.c (.int .u64 a0)] (· =vS r)
theorem YP {a0:Int} {r:(List UInt8)} (h:EI a0=some r):dh a0 r:=by
 refine AQ.bo Ab Tryz.func175 rfl Tryz.ntmps175 [.tmp 2] fun _ _ _ _=>?_
 unfold EI at h
 refine Gg [.a] (u [] []) (aN) ?_
 obtain⟨u1,y0,h⟩:=bS h
 refine Gg [.a,.a,.a,.a,.a,(.v (vS (HN ([IntKind.u8.wrap (IntKind.u64.wrap ((48:Int)+(Int.tmod a0 (10:Int))))]:List (Int))))),.a] (u [] [(3,vS (HN ([IntKind.u8.wrap (IntKind.u64.wrap ((48:Int)+(Int.tmod a0 (10:Int))))]:List (Int))))]) (aC (show (10:Int) ≠ 0 from(by decide))<|aC (show (Gh Tryz.prog 136=true∧EK Tryz.prog 9=true)∧1=1∧II (([IntKind.u8.wrap (IntKind.u64.wrap ((48:Int)+(Int.tmod a0 (10:Int))))]:List (Int)).flatMap (eI .u8))from⟨⟨by kernel_rfl,by kernel_rfl⟩,rfl,KH (Mk y0)⟩)<|aC (congrArg (fun z=>V.c (.str z)) (Mm ([IntKind.u8.wrap (IntKind.u64.wrap ((48:Int)+(Int.tmod a0 (10:Int))))]:List (Int))))<|aN)<|Sj (X:=(List UInt8)) (fun v=>(sl 25 [(3,vS v)] [])) (fun v=>F9 v=some r) ?_ ?_
 ·refine Gg (nA 3) (u [] [(0,.c (.int .u64 (IntKind.u64.wrap (Int.tdiv a0 (10:Int)))))]) (aC (show (10:Int) ≠ 0 from(by decide))<|aN)<|hB ?_
  obtain⟨d1,q0,h⟩:=bS h
  refine It (fun(v:Int×(List UInt8))=>(sl 25 [(0,.c (.int .u64 v.1)),(3,vS v.2)] [])) q0 (wT) ?_
  rintro⟨i0,k0⟩ z0 j0 t0
  replace j0:Jw i0 k0=some z0:=j0
  unfold Jw at j0
  refine hS<|Gg [.a,.a] (u [] [(13,vB (decide (0<i0)))]) (aN)<|iC j0 (fun j0=>?_) (fun j0=>?_)
  ·refine hK<|Tn<|hS<|hB ?_
   obtain⟨i1,x0,o0,p0,j0⟩:=YG j0
   refine Ge [.a,.a,.a,.a,.a,(.v (vS (HN ([IntKind.u8.wrap (IntKind.u64.wrap ((48:Int)+(Int.tmod i0 (10:Int))))]:List (Int))))),.a,(.v (vS o0)),.a] (uo [] [(3,vS o0),(16,.c (.int .u64 i0)),(17,.c (.int .u64 (Int.tmod i0 (10:Int)))),(18,.c (.int .u64 (IntKind.u64.wrap ((48:Int)+(Int.tmod i0 (10:Int)))))),(19,.c (.int .u8 (IntKind.u8.wrap (IntKind.u64.wrap ((48:Int)+(Int.tmod i0 (10:Int))))))),(20,vO [20]),(21,vS (HN ([IntKind.u8.wrap (IntKind.u64.wrap ((48:Int)+(Int.tmod i0 (10:Int))))]:List (Int)))),(22,vS k0),(23,vS o0)] [.e (BA [20] 5 1 (eI .u8) ([IntKind.u8.wrap (IntKind.u64.wrap ((48:Int)+(Int.tmod i0 (10:Int))))]:List (Int)))]) (aC (show (10:Int) ≠ 0 from(by decide))<|aC (show (Gh Tryz.prog 136=true∧EK Tryz.prog 9=true)∧1=1∧II (([IntKind.u8.wrap (IntKind.u64.wrap ((48:Int)+(Int.tmod i0 (10:Int))))]:List (Int)).flatMap (eI .u8))from⟨⟨by kernel_rfl,by kernel_rfl⟩,rfl,KH (Mk x0)⟩)<|aC (congrArg (fun z=>V.c (.str z)) (Mm ([IntKind.u8.wrap (IntKind.u64.wrap ((48:Int)+(Int.tmod i0 (10:Int))))]:List (Int))))<|aC (uQ p0)<|aC (congrArg (fun z=>V.c (.str z)) (uR p0).symm)<|aN)<|qN<|Tn<|Ge (nA 3) (u [] [(0,.c (.int .u64 (IntKind.u64.wrap (Int.tdiv i0 (10:Int))))),(14,.c (.int .u64 i0)),(15,.c (.int .u64 (IntKind.u64.wrap (Int.tdiv i0 (10:Int)))))]) (aC (show (10:Int) ≠ 0 from(by decide))<|aN)<|Tn ⟨((IntKind.u64.wrap (Int.tdiv i0 (10:Int))),o0),(sI j0).symm,wT⟩
  refine hE<|Te ?_
  obtain rfl:=t0 _ (sI j0).symm
  refine Te<|qX<|Tn ⟨k0,h,wT⟩
 rintro m0 n0
 replace n0:F9 m0=some r:=n0
 unfold F9 at n0
 exact Rg [.a,.a] (sl 25 [(2,vS m0)] []) (aN)<|hR<|bQ _ (congrArg vS (sI n0))def E_r01_digits:CE TE Tryz.prog I0:=⟨175,[.k (.int .u64)],[.k (.str)],fun x=>EI x.1,fun x r h=>Cz (by kernel_rfl) (YP (r:=r) h)⟩
def UK (s_t5_1:List UInt8):Option ((List UInt8)):=
 some s_t5_1
def KY (a0:List (List UInt8)) (i_t6_6:Int) (s_t5_10:List UInt8):Option (((List UInt8)×Int)⊕((List UInt8))):=
 (idx a0 i_t6_6).bind fun e12=>
 (cat s_t5_10 e12).bind fun s13=>
 some (.inl (s13,(Ac (i_t6_6+1))))
def MJ (a0:List (List UInt8)) (a1:List UInt8) (s_t5_5:List UInt8) (i_t6_6:Int):Option (((List UInt8)×Int)⊕((List UInt8))):=
 (if(decide (i_t6_6<(a0.length:Int)))=true then
  jn (fun(v:(List UInt8))=>KY a0 i_t6_6 v) (fun jJ11=>
  (if(decide (0<i_t6_6))=true then
   (cat s_t5_5 a1).bind fun s15=>
   jJ11 s15
  else
   jJ11 s_t5_5))
 else
  some (.inr s_t5_5))
def QM (a0:List (List UInt8)) (a1:List UInt8):Option ((List UInt8)):=
 jn (fun(v:(List UInt8))=>UK v) (fun jJ2=>
 (iter (fun(v:(List UInt8)×Int)=>MJ a0 a1 v.1 v.2) FU (([]:List UInt8),(0:Int))).bind (fun o0=>jJ2 o0))
def lp:CE TE Tryz.prog I0:=AK [] Ab Ad 9 174 Tryz.f174 (Tryz.f174.body.getD .skip) (.s .n (.s .n (.j ⟨[],[(5, .c (.v (.k (.str))))],[],[]⟩ (.s .n (.l ⟨[0,1],[(5, .c (.v (.k (.str)))),(6, .c (.v (.k (.int .i64))))],[],[]⟩ [(1,⟨[],[(5, .c (.v (.k (.str))))],[],[]⟩)] (.s .n (.s (.j ⟨[0,1,6],[(5, .c (.v (.k (.str))))],[],[]⟩ .n .n) .n)))) .n))) [.k (.lst 9), .k (.str)] [.k (.str)] (fun x=>QM x.1 x.2.1) Tryz.func174 rfl (by kernel_rfl)
def MK (a0:Int):Option ((List UInt8)):=
 (if(a0==1)=true then
  some kQ
 else
  (if(a0==2)=true then
   some kR
  else
   (if(a0==3)=true then
    some rN
   else
    (if(a0==4)=true then
     some gP
    else
     (if(a0==5)=true then
      some kS
     else
      (if(a0==6)=true then
       some ph
      else
       (if(a0==7)=true then
        some pi
       else
        (if(a0==8)=true then
         some pj
        else
         (if(a0==9)=true then
          some pk
         else
          (if(a0==10)=true then
           some Pz
          else
           (if(a0==11)=true then
            some cX
           else
            (if(a0==12)=true then
             some pm
            else
             (if(a0==13)=true then
              some pn
             else
              (if(a0==14)=true then
               some kT
              else
               some ([]:List UInt8)))))))))))))))
def XK:CE TE Tryz.prog I0:=AK [] Ab Ad 9 117 Tryz.f117 (Tryz.f117.body.getD .skip) .n [.k (.int .i64)] [.k (.str)] (fun x=>MK x.1) Tryz.func117 rfl (by kernel_rfl)
def Ia (a0:Int):Option (Bool):=
 (some (if(a0==8)=true then true else a0==9)).bind fun b1=>
 (some (if b1=true then true else a0==10)).bind fun b2=>
 (some (if b2=true then true else a0==11)).bind fun b3=>
 (some (if b3=true then true else a0==12)).bind fun b4=>
 (some (if b4=true then true else a0==13)).bind fun b5=>
 some b5
def QN:CE TE Tryz.prog I0:=AK [] Ab Ad 9 118 Tryz.f118 (Tryz.f118.body.getD .skip) .n [.k (.int .i64)] [.k (.bool)] (fun x=>Ia x.1) Tryz.func118 rfl (by kernel_rfl)
end Go.PL
