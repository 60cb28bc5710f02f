/- Functions of the program, as partial functions in Lean, with proofs. -/
import Derived.Test.YtfmknfnfpeopeaaGreatDoorPlBhB
namespace Go.PL
open Go Go.RowKit Go.Proofs
set_option maxRecDepth 100000
set_option linter.all false
set_option maxHeartbeats 4000000
attribute [local irreducible] Ae C0 C3
def Sb (a1:Int) (n1000003_12_1:Int) (l1000003_12_2:List (List (Int))):Option (Ct):=
 (AS (n1000003_12_1=((l1000003_12_2.length:Nat):Int))).bind fun _=>
 some (⟨([(⟨LY,false,(⟨0,0,(⟨0,0,0,0,0⟩:A5 (Int))⟩:GA),0,(⟨0,32,([]:List (List UInt8))⟩:Pe),0,0,0,([]:List (Cs))⟩:DH)]:List (DH)),l1000003_12_2,a1,1⟩:Ct)
def Cg (a0:Int) (i_t6_8:Int) (n1000003_12_9:Int) (l1000003_12_10:List (List (Int))):Option ((Int×Int×(List (List (Int))))⊕((Int×(List (List (Int)))))):=
 (if(decide (i_t6_8<a0))=true then
  (AN l1000003_12_10 (0:Int)).bind fun e15=>
  (AN l1000003_12_10 (0:Int)).bind fun e16=>
  (AS (0<n1000003_12_9)).bind fun u17=>
  (EW 8 e16 ([(0:Int)]:List (Int))).bind fun l18=>
  (AN l1000003_12_10 (0:Int)).bind fun e19=>
  (AN l1000003_12_10 (0:Int)).bind fun e20=>
  (AS (0<n1000003_12_9)).bind fun u21=>
  (AS ((0:Int)=(0:Int))).bind fun u22=>
  (some (l1000003_12_10.set ((0:Int)).toNat l18)).bind fun l23=>
  (AN l23 (1:Int)).bind fun e24=>
  (AN l23 (1:Int)).bind fun e25=>
  (AS (1<n1000003_12_9)).bind fun u26=>
  (EW 8 e25 ([(0:Int)]:List (Int))).bind fun l27=>
  (AN l23 (1:Int)).bind fun e28=>
  (AN l23 (1:Int)).bind fun e29=>
  (AS (1<n1000003_12_9)).bind fun u30=>
  (AS ((1:Int)=(1:Int))).bind fun u31=>
  (some (l23.set ((1:Int)).toNat l27)).bind fun l32=>
  some (.inl ((Al (i_t6_8+1)),n1000003_12_9,l32))
 else
  some (.inr (n1000003_12_9,l1000003_12_10)))
def Gb (a0:Int) (a1:Int):Option (Ct):=
 jn (fun(v:Int×(List (List (Int))))=>Sb a1 v.1 v.2) (fun jJ3=>
 (iter (fun(v:Int×Int×(List (List (Int))))=>Cg a0 v.1 v.2.1 v.2.2) FU ((0:Int),((([([]:List (Int)),([]:List (Int))]:List (List (Int))).length :Nat):Int),([([]:List (Int)),([]:List (Int))]:List (List (Int))))).bind (fun o0=>jJ3 (o0.1,o0.2)))
def K7:CE TE Tryz.prog I0:=fG [] An Av 9 6 Tryz.f6 (Tryz.f6.body.getD .skip) (.s .n (.s (.r [] [] (.q 5 .sb .n)) (.j ⟨[4,5],[],[[4],[5],[9]],[([1000003,12], .deep 26)]⟩ (.s .n (.l ⟨[0,4,5],[(6, .c (.v (.k (.int .i64))))],[[4],[5],[9]],[([1000003,12], .deep 26)]⟩ [(1,⟨[4,5],[],[[4],[5],[9]],[([1000003,12], .deep 26)]⟩)] (.s .n (.s (.s (.r [] [] (.t (.q 5 .au (.q 9 .au .n)))) (.r [] [] (.t (.q 5 .au (.q 9 .au .n))))) .n)))) .n))) [[1,2,0,0]] [.k (.int .i64), .k (.int .u64)] [.s 38] (fun x=>Gb x.1 x.2.1) Tryz.func6 rfl (by kernel_rfl)
def Ia:Option (Bool):=
 some true
def Kj (a0:List UInt8) (vt38_13:Int):Option ((Int)⊕(Unit⊕Unit)):=
 (if(decide (vt38_13<((Gt a0).length :Int)))=true then
  (AN (Gt a0) vt38_13).bind fun e16=>
  (some (if(decide (e16<97))=true then true else decide (122<e16))).bind fun b17=>
  (some (if(decide (e16<48))=true then true else decide (57<e16))).bind fun b18=>
  (some (if b17=true then b18 else false)).bind fun b19=>
  (some (if b19=true then e16 != 45 else false)).bind fun b20=>
  (if b20=true then
   some (.inr (.inr ()))
  else
   some (.inl (Al (vt38_13+1))))
 else
  some (.inr (.inl ())))
def Qe (a0:List UInt8):Option (Bool):=
 (some (if((a0.length:Int)==0)=true then true else decide (32<(a0.length:Int)))).bind fun b1=>
 (gd (b1==false) (VG a0 (0:Int))).bind fun c2=>
 (some (if b1=true then true else decide (c2<97))).bind fun b3=>
 (gd (b3==false) (VG a0 (0:Int))).bind fun c4=>
 (some (if b3=true then true else decide (122<c4))).bind fun b5=>
 (gd (b5==false) (VG a0 (Al ((a0.length:Int) - (1:Int))))).bind fun c6=>
 (some (if b5=true then true else c6==45)).bind fun b7=>
 (gd (b7==false) (NV a0 df)).bind fun r8=>
 (if(if b7=true then true else r8)=true then
  some false
 else
  (AS (a0.length≤140737488355328)).bind fun u11=>
  (iter (fun(v:Int)=>Kj a0 v) FU (0:Int)).bind (Sum.elim (fun o0=>Ia) (fun o1=>some false)))
def dg (a0:List UInt8) (r:Bool):Prop:=CC Tryz.prog I0 61 [vS a0] (· =vB r)
theorem Z4 {a0:List UInt8} {r:Bool} (h:Qe a0=some r):dg a0 r:=by
 refine CC.bo An Tryz.func61 rfl Tryz.ntmps61 [.tmp 2] fun _ _ _ _=>?_
 unfold Qe at h
 refine Gg [.a] (u [] []) (aN)<|hS ?_
 obtain⟨b1,q1,c2,y0,b3,t1,c4,z0,h⟩:=nJ h
 obtain⟨b5,x1,c6,d1,b7,y1,r8,z1,h⟩:=nJ h
 refine Gg [.a,.a,.a,.a,.a,.a,.a,(.v (vB b1)),.a,.a,(.v (.c (.int .u8 c2))),.a,(.v (vB b3)),.a,.a,(.v (.c (.int .u8 c4))),.a,(.v (vB b5)),.a,.a,.a,.a,.a,(.v (.c (.int .u8 c6))),.a,(.v (vB b7)),.a,.a,(.c (vB r8)),.a] (u [] [(34,vB (if b7=true then true else r8))]) (aG (((a0.length:Int)==0)==false)<|aG (((a0.length:Int)==0)==false)<|aF ((a0.length:Int)==0)<|aB q1<|aC (fun hg:(b1==false)=true=>aC (gi (b1==false))<|aC (VH (QN y0 hg))<|aC (congrArg (fun z=>V.c (.int .u8 z)) (VI (QN y0 hg)).symm)<|aN)<|aG (b1==false)<|aF b1<|aB t1<|aC (fun hg:(b3==false)=true=>aC (gi (b3==false))<|aC (VH (QN z0 hg))<|aC (congrArg (fun z=>V.c (.int .u8 z)) (VI (QN z0 hg)).symm)<|aN)<|aG (b3==false)<|aF b3<|aB x1<|aG (b5==false)<|aG (b5==false)<|aC (fun hg:(b5==false)=true=>aC (gi (b5==false))<|aC (gi (b5==false))<|aC (VH (QN d1 hg))<|aC (congrArg (fun z=>V.c (.int .u8 z)) (VI (QN d1 hg)).symm)<|aN)<|aG (b5==false)<|aF b5<|aB y1<|aC (c1 z1 ZM)<|aF b7<|aN)<|iC h (fun h=>?_) (fun h=>?_)
 ·exact Rg [.a] (sl 61 [(2,vB false)] []) (aN)<|hR<|Tr<|bQ _ (kB h)
 refine hK<|Tn<|Sj (X:=Unit) (fun v=>(sl 61 [] [])) (fun v=>Ia=some r) ?_ ?_
 ·refine hS<|hO<|Gp 1 [.a] (u [] [(35,vS a0)]) (aN) ?_
  obtain⟨i2,n1,h⟩:=bS h
  refine Run.inl rfl rfl (Eg.bytes 5 a0 rfl (CQ n1) ?_)
  refine Gw [.a,.a] (u [] [(37,vI ((Gt a0).length :Int)),(38,vI 0)]) (aN)<|Tn<|hB ?_
  obtain⟨d2,t0,h⟩:=bS h
  refine Gi (fun(v:Int)=>(u [0,34,35] [(38,vI v)])) t0 (wT) ?_
  rintro j0 o1 i0 o0
  replace i0:Kj a0 j0=some o1:=i0
  unfold Kj at i0
  refine Gg [.a] (u [] [(39,vB (decide (j0<((Gt a0).length :Int))))]) (aN)<|hS<|iC i0 (fun i0=>?_) (fun i0=>?_)
  ·refine hK<|Tn<|hS<|hB ?_
   obtain⟨k0,q0,i0⟩:=bS i0
   refine Gg [.a,(.v (.c (.int .u8 k0))),.a] (u [39] [(4,.c (.int .u8 k0))]) (aC (K3 q0)<|aC (oF q0 (kk .u8) 0 1 false (.c (.int .u8 k0)))<|aC (Eq.refl (.c (.int .u8 k0):V))<|aN) ?_
   obtain⟨m0,i1,p1,j1,p0,k1,x0,m1,i0⟩:=nJ i0
   refine Rg [.a,.a,.a,.a,.a,(.v (vB m0)),.a,.a,.a,.a,.a,.a,(.v (vB p1)),(.v (vB p0)),.a,.a,.a,(.v (vB x0))] (sl 61 [(36,vL (eI .u8) (Gt a0)),(37,vI ((Gt a0).length :Int)),(38,vI j0),(59,vB x0)] []) (aG ((decide (k0<97))==false)<|aF (decide (k0<97))<|aB i1<|aG (m0==true)<|aG (m0==true)<|aG ((m0==true)&&((decide (k0<48))==false))<|aC (fun hg:(m0==true)=true=>aC (gi (m0==true))<|aC (fun q:(decide (k0<48))=false=>(gA hg (gF q)))<|aB j1<|aN)<|aT m0<|aB k1<|aG (p0==true)<|aT p0<|aB m1<|aN)<|iC i0 (fun i0=>?_) (fun i0=>?_)
   ·refine Rg [.a] (sl 61 [(2,vB false)] []) (aN)<|hR<|qR<|Tr ?_
    obtain rfl:=o0 _ (sI i0).symm
    replace h:=nE h
    exact Tr<|qR<|Tr<|bQ _ (kB h)
   refine hK<|qN<|Tn<|Ge [.a,.a] (u [] [(38,vI (Al (j0+1))),(60,vI (Al (j0+1)))]) (aN)<|Tn ⟨(Al (j0+1)),(sI i0).symm,wT⟩
  refine hE<|Te ?_
  obtain rfl:=o0 _ (sI i0).symm
  replace h:=nD h
  refine Te<|qX<|Tn ⟨(),h,wT⟩
 rintro _ n0
 replace n0:Ia=some r:=n0
 unfold Ia at n0
 exact Rg [.a] (sl 61 [(2,vB true)] []) (aN)<|hR<|bQ _ (kB n0)def E_word_Is:CE TE Tryz.prog I0:=⟨61,[.k (.str)],[.k (.bool)],fun x=>Qe x.1,fun x r h=>MN (by kernel_rfl) (Z4 (r:=r) h),[],fun h=>absurd rfl h,none,fun _ h=>nomatch h⟩
def Z5 (a0:GA):Option (Bool):=
 (some (if(decide (0≤a0.Generic))=true then decide (a0.Generic≤99)else false)).bind fun b2=>
 (some (if b2=true then decide (0≤a0.X)else false)).bind fun b3=>
 (some (if b3=true then decide (a0.X≤2)else false)).bind fun b4=>
 some b4
def Z6 (a0:GA) (vt7_6:Int):Option ((Int)⊕(Unit⊕Bool)):=
 (if(decide (vt7_6<5))=true then
  (AN a0.Color.l vt7_6).bind fun e10=>
  (some (if(decide (e10<0))=true then true else decide (9<e10))).bind fun b11=>
  (if b11=true then
   some (.inr (.inr false))
  else
   some (.inl (Al (vt7_6+1))))
 else
  some (.inr (.inl ())))
def bh (a0:GA):Option (Bool):=
 jn (fun(v:Unit)=>Z5 a0) (fun jJ1=>
 (iter (fun(v:Int)=>Z6 a0 v) FU (0:Int)).bind (Sum.elim (fun o0=>jJ1 ()) (fun o1=>some o1)))
def dh:CE TE Tryz.prog I0:=CG [] An Av 9 62 Tryz.f62 (Tryz.f62.body.getD .skip) (.s .n (.j ⟨[1],[],[[1]],[]⟩ (.s .n (.l ⟨[1,6],[(7, .c (.v (.k (.int .i64))))],[[1]],[]⟩ [(1,⟨[1],[],[[1]],[]⟩),(0,⟨[],[(2, .c (.v (.k (.bool))))],[],[]⟩)] .n)) .n)) [.s 67] [.k (.bool)] (fun x=>bh x.1) Tryz.func62 rfl (by kernel_rfl)
def K8 (a0:Int):Option (Bool):=
 (some (if((Yw .i64 a0 (6:Int))==(0:Int))=true then true else a0==2)).bind fun b1=>
 (some (if b1=true then true else a0==4)).bind fun b2=>
 some b2
def Ps:CE TE Tryz.prog I0:=CG [] An Av 9 87 Tryz.f87 (Tryz.f87.body.getD .skip) .n [.k (.int .i64)] [.k (.bool)] (fun x=>K8 x.1) Tryz.func87 rfl (by kernel_rfl)
def Sc (a0:Int):Option (Bool):=
 (some (if(decide (0≤a0))=true then decide (a0≤131071)else false)).bind fun b1=>
 some b1
def Ww:CE TE Tryz.prog I0:=CG [] An Av 9 64 Tryz.f64 (Tryz.f64.body.getD .skip) .n [.k (.int .i64)] [.k (.bool)] (fun x=>Sc x.1) Tryz.func64 rfl (by kernel_rfl)
def Ye (a0:Int):Option (Bool):=
 (some (if(decide (0≤a0))=true then decide (a0≤31)else false)).bind fun b1=>
 some b1
def Z7:CE TE Tryz.prog I0:=CG [] An Av 9 65 Tryz.f65 (Tryz.f65.body.getD .skip) .n [.k (.int .i64)] [.k (.bool)] (fun x=>Ye x.1) Tryz.func65 rfl (by kernel_rfl)
def Sd (a0:DH):Option (Bool):=
 some ((Yw .i64 a0.Line.Types (6:Int)) != (0:Int))
def Wx:CE TE Tryz.prog I0:=CG [] An Av 9 67 Tryz.f67 (Tryz.f67.body.getD .skip) .n [.s 70] [.k (.bool)] (fun x=>Sd x.1) Tryz.func67 rfl (by kernel_rfl)
def K9 (a0:DH):Option (Bool):=
 (some (if a0.Token=true then true else(Yw .i64 a0.Line.Types (32:Int)) != (0:Int))).bind fun b1=>
 some b1
def Pt:CE TE Tryz.prog I0:=CG [] An Av 9 68 Tryz.f68 (Tryz.f68.body.getD .skip) .n [.s 70] [.k (.bool)] (fun x=>K9 x.1) Tryz.func68 rfl (by kernel_rfl)
def Pu (vt7_1:Int):Option (Int):=
 some vt7_1
def Pv (jJ2:(Int)→Option (Int)):Option (Int):=
 jJ2 (-1:Int)
def Pw (a0:List (DH)) (a1:List UInt8) (vt8_5:Int):Option ((Int)⊕(Unit⊕Int)):=
 (if(decide (vt8_5<(a0.length:Int)))=true then
  (AN a0 vt8_5).bind fun e9=>
  (if(e9.Name==a1)=true then
   some (.inr (.inr vt8_5))
  else
   some (.inl (Al (vt8_5+1))))
 else
  some (.inr (.inl ())))
def MS (a0:List (DH)) (a1:List UInt8):Option (Int):=
 jn (fun(v:Int)=>Pu v) (fun jJ2=>
 jn (fun(v:Unit)=>Pv jJ2) (fun jJ3=>
 (iter (fun(v:Int)=>Pw a0 a1 v) FU (0:Int)).bind (Sum.elim (fun o0=>jJ3 ()) (fun o1=>jJ2 o1))))
def Se:CE TE Tryz.prog I0:=CG [] An Av 9 45 Tryz.f45 (Tryz.f45.body.getD .skip) (.s .n (.s (.r [] [] (.j 2 ⟨[],[(7, .c (.v (.k (.int .i64))))],[],[]⟩ (.s .n (.j ⟨[],[],[[3]],[]⟩ (.s .n (.l ⟨[0,1,7],[(8, .c (.v (.k (.int .i64))))],[[3]],[]⟩ [(1,⟨[],[],[[3]],[]⟩),(0,⟨[],[(4, .c (.v (.k (.int .i64))))],[[3]],[]⟩)] (.s .n (.s .n (.s (.s .n (.s (.r [] [] (.c 5 .n .n)) .n)) .n))))) .n)) .n)) .n)) [.k (.lst 70), .k (.str)] [.k (.int .i64)] (fun x=>MS x.1 x.2.1) Tryz.func45 rfl (by kernel_rfl)
def NW:Option (Bool):=
 some false
def NX (vt13_3:Int):Option ((Int)⊕(Unit⊕Bool)):=
 some (.inl (Al (vt13_3+1)))
def MT (vt20_10:Int) (e14:BT) (__t7_15:Int):Option ((Int)⊕(Unit⊕Bool)):=
 (some (if(e14.Op==12)=true then !(decide (0≤__t7_15))else false)).bind fun b17=>
 (if b17=true then
  some (.inr (.inr true))
 else
  some (.inl (Al (vt20_10+1))))
def MU (jJ16:(Int)→Option ((Int)⊕(Unit⊕Bool))):Option ((Int)⊕(Unit⊕Bool)):=
 jJ16 (-1:Int)
def MV (a0:List (DH)) (e14:BT) (e_t8_21:Int):Option ((Int)⊕(Unit⊕Int)):=
 (if(decide (e_t8_21<(a0.length:Int)))=true then
  (AN a0 e_t8_21).bind fun e25=>
  (some (if(e25.Name==e14.Card)=true then e25.Token else false)).bind fun b26=>
  (if b26=true then
   some (.inr (.inr e_t8_21))
  else
   some (.inl (Al (e_t8_21+1))))
 else
  some (.inr (.inl ())))
def MW (a0:List (DH)) (e8:Cs) (vt20_10:Int):Option ((Int)⊕(Unit⊕Bool)):=
 (if(decide (vt20_10<(e8.Effects.length:Int)))=true then
  (AN e8.Effects vt20_10).bind fun e14=>
  jn (fun(v:Int)=>MT vt20_10 e14 v) (fun jJ16=>
  jn (fun(v:Unit)=>MU jJ16) (fun jJ19=>
  (iter (fun(v:Int)=>MV a0 e14 v) FU (0:Int)).bind (Sum.elim (fun o0=>jJ19 ()) (fun o1=>jJ16 o1))))
 else
  some (.inr (.inl ())))
def NY (a0:List (DH)) (a1:DH) (vt13_3:Int):Option ((Int)⊕(Unit⊕Bool)):=
 (if(decide (vt13_3<(a1.Abilities.length:Int)))=true then
  jn (fun(v:Unit)=>NX vt13_3) (fun jJ7=>
  (AN a1.Abilities vt13_3).bind fun e8=>
  (iter (fun(v:Int)=>MW a0 e8 v) FU (0:Int)).bind (Sum.elim (fun o0=>jJ7 ()) (fun o1=>some (.inr (.inr o1)))))
 else
  some (.inr (.inl ())))
def La (a0:List (DH)) (a1:DH):Option (Bool):=
 jn (fun(v:Unit)=>NW) (fun jJ1=>
 (iter (fun(v:Int)=>NY a0 a1 v) FU (0:Int)).bind (Sum.elim (fun o0=>jJ1 ()) (fun o1=>some o1)))
def Px:CE TE Tryz.prog I0:=CG [] An Av 9 46 Tryz.f46 (Tryz.f46.body.getD .skip) (.s .n (.j ⟨[],[],[],[]⟩ (.s .n (.l ⟨[0,11,12],[(13, .c (.v (.k (.int .i64))))],[],[]⟩ [(1,⟨[],[],[],[]⟩),(0,⟨[],[(4, .c (.v (.k (.bool))))],[],[]⟩)] (.s .n (.s .n (.j ⟨[0,11,12,13],[],[],[]⟩ (.s .n (.s .n (.l ⟨[0,11,12,13,18,19],[(20, .c (.v (.k (.int .i64))))],[],[]⟩ [(3,⟨[0,11,12,13],[],[],[]⟩),(0,⟨[],[(4, .c (.v (.k (.bool))))],[],[]⟩)] (.s .n (.s .n (.s (.s .n (.s (.r [] [] (.c 2 (.s .n (.s (.r [] [] (.j 2 ⟨[],[(7, .c (.v (.k (.int .i64))))],[[8]],[]⟩ (.s .n (.j ⟨[],[],[[8]],[]⟩ (.s .n (.l ⟨[0,1,7],[(8, .c (.v (.k (.int .i64))))],[[8]],[]⟩ [(1,⟨[],[],[[8]],[]⟩),(0,⟨[],[(4, .c (.v (.k (.int .i64))))],[[8]],[]⟩)] (.s .n (.s .n (.s (.s .n (.s (.r [] [] (.c 5 .n .n)) .n)) .n))))) .n)) .n)) .n)) .n)) .n)) .n)))))) .n))))) .n)) [.k (.lst 70), .s 70] [.k (.bool)] (fun x=>La x.1 x.2.1) Tryz.func46 rfl (by kernel_rfl)
def TC (n1000003_14_4:Int) (l1000003_14_5:List (Ar)) (b8_Turn7:Int) (b8_Active8:Int) (b8_Step9:Int) (b8_Begun10:Bool) (b8_Priority11:Int) (b8_Passes12:Int) (b8_NextId13:Int) (b8_NextStamp14:Int) (b8_Seed15:Int) (b8_Over16:Int) (b8_Winner17:Int):Option (Af):=
 (AS (n1000003_14_4=((l1000003_14_5.length:Nat):Int))).bind fun _=>
 some (⟨l1000003_14_5,([]:List (Aa)),([]:List (Int)),([]:List (Int)),([]:List (AW)),([]:List (AC)),([]:List (B4)),b8_Turn7,b8_Active8,b8_Step9,b8_Begun10,b8_Priority11,b8_Passes12,b8_NextId13,b8_NextStamp14,b8_Seed15,([]:List (Int)),b8_Over16,b8_Winner17⟩:Af)
def Wy (a0:Int) (a1:Int) (a2:Int) (n1000003_14_4:Int) (l1000003_14_5:List (Ar)):Option (Af):=
 jn (fun(v:Int×Int×Int×Bool×Int×Int×Int×Int×Int×Int×Int)=>TC n1000003_14_4 l1000003_14_5 v.1 v.2.1 v.2.2.1 v.2.2.2.1 v.2.2.2.2.1 v.2.2.2.2.2.1 v.2.2.2.2.2.2.1 v.2.2.2.2.2.2.2.1 v.2.2.2.2.2.2.2.2.1 v.2.2.2.2.2.2.2.2.2.1 v.2.2.2.2.2.2.2.2.2.2) (fun jJ18=>
 (some (if(decide (0<a1))=true then decide (a1<(if 4<(if a0<2 then(2:Int)else a0)then(4:Int)else(if a0<2 then(2:Int)else a0)))else false)).bind fun b19=>
 (if b19=true then
  jJ18 ((0:Int),a1,(0:Int),false,a1,(0:Int),(1:Int),(1:Int),a2,(0:Int),(-1:Int))
 else
  jJ18 ((0:Int),(0:Int),(0:Int),false,(0:Int),(0:Int),(1:Int),(1:Int),a2,(0:Int),(-1:Int))))
def TD (l2:List (Ar)) (vt20_25:Int) (n1000003_14_26:Int) (l1000003_14_27:List (Ar)):Option ((Int×Int×(List (Ar)))⊕((Int×(List (Ar))))):=
 (if(decide (vt20_25<(l2.length:Int)))=true then
  (AN l1000003_14_27 vt20_25).bind fun e32=>
  (AN l1000003_14_27 vt20_25).bind fun e33=>
  (some (l1000003_14_27.set (vt20_25).toNat ({e33 with Life:=(20:Int)}))).bind fun l34=>
  some (.inl ((Al (vt20_25+1)),n1000003_14_26,l34))
 else
  some (.inr (n1000003_14_26,l1000003_14_27)))
def KP (a0:Int) (a1:Int) (a2:Int):Option (Af):=
 (AS (0≤(if 4<(if a0<2 then(2:Int)else a0)then(4:Int)else(if a0<2 then(2:Int)else a0))∧(if 4<(if a0<2 then(2:Int)else a0)then(4:Int)else(if a0<2 then(2:Int)else a0))≤(if 4<(if a0<2 then(2:Int)else a0)then(4:Int)else(if a0<2 then(2:Int)else a0))∧(if 4<(if a0<2 then(2:Int)else a0)then(4:Int)else(if a0<2 then(2:Int)else a0))*152≤140737488355328∧(if 4<(if a0<2 then(2:Int)else a0)then(4:Int)else(if a0<2 then(2:Int)else a0))≤maxLen)).bind fun u1=>
 (some (List.replicate ((if 4<(if a0<2 then(2:Int)else a0)then(4:Int)else(if a0<2 then(2:Int)else a0))).toNat (⟨0,0,0,(⟨0,0,0,0,0,0⟩:A6 (Int)),false,false,([]:List (Int)),([]:List (Int)),([]:List (Int))⟩:Ar))).bind fun l2=>
 (AS (0<l2.length)).bind fun u3=>
 jn (fun(v:Int×(List (Ar)))=>Wy a0 a1 a2 v.1 v.2) (fun jJ6=>
 (iter (fun(v:Int×Int×(List (Ar)))=>TD l2 v.1 v.2.1 v.2.2) FU ((0:Int),((l2.length:Nat):Int),l2)).bind (fun o0=>jJ6 (o0.1,o0.2)))
def Yf:CE TE Tryz.prog I0:=fG [] An Av 9 12 Tryz.f12 (Tryz.f12.body.getD .skip) (.s .n (.s .n (.s (.r [] [([8],1,[1001,8],60)] (.q 1 .mk .n)) (.j ⟨[1,6,7,8],[],[[6],[8],[1001,8]],[([1000003,14], .deep 52)]⟩ (.s .n (.l ⟨[1,6,7,8,19],[(20, .c (.v (.k (.int .i64))))],[[6],[8],[1001,8]],[([1000003,14], .deep 52)]⟩ [(1,⟨[1,6,7,8],[],[[6],[8],[1001,8]],[([1000003,14], .deep 52)]⟩)] (.s .n (.s .n (.s (.s .n (.r [] [] (.q 5 .au .n))) .n))))) (.j ⟨[6,8],[],[[6],[1001,8],[1000003,14]],[([8], .box [.c (.osl [1000003,14]), .c (.osl [1001,8]), .c (.nils), .c (.nils), .c (.nils), .c (.nils), .c (.nils), .v (.k (.int .i64)), .v (.k (.int .i64)), .v (.k (.int .i64)), .v (.k (.bool)), .v (.k (.int .i64)), .v (.k (.int .i64)), .v (.k (.int .i64)), .v (.k (.int .i64)), .v (.k (.int .u64)), .c (.nils), .v (.k (.int .i64)), .v (.k (.int .i64))])]⟩ .n .n))))) [[2,1,0,0,0,0,0,0,0,0,0,0,0,0,0,0,0,0,0]] [.k (.int .i64), .k (.int .i64), .k (.int .u64)] [.s 31] (fun x=>KP x.1 x.2.1 x.2.2.1) Tryz.func12 rfl (by kernel_rfl)
def Am (a0:List (Int)):Option (List (Int)):=if a0.length*8≤140737488355328∧a0.length≤maxLen then some a0 else none
theorem Im {a0 r:List (Int)} (h:Am a0=some r):Bz Tryz.prog I0 24 [vL (eI .i64) a0] 3 1 (fun len cs=>len=r.length∧cs=r.flatMap (eI .i64)):=by
 refine Bz.of (t:=2) (m:=8) An (by kernel_rfl) Tryz.func24 rfl rfl Tryz.ntmps24 ?_
 intro w0 av old gv
 unfold Am at h
 split at h
 ·rename_i hb
  injection h with h;subst h
  refine Rg [.a] (sl 8 [(0,vL (eI .i64) a0)] []) (aN) ?_
  refine Ae.seq ?_
  refine Ae.seq ?_
  refine Ae.region ?_
  refine Rp 1 [.a] (sl 8 [(0,vL (eI .i64) a0),(3,vL (eI .i64) a0)] []) (aN) ?_
  refine Run.inl rfl rfl (Eg.nilq (len:=a0.length) (cs:=a0.flatMap (eI .i64)) rfl (fun b hbn=>?_))
  refine Rw [] (sl 8 [(0,vL (eI .i64) a0),(3,vL (eI .i64) a0),(4,vB b)] []) (aN) ?_
  refine Tn ?_
  refine Ae.ifB b (by kernel_rfl) (fun hb1=>?_) (fun hb1=>?_)
  ·have h0:a0=[]:=List.length_eq_zero_iff.1 (hbn hb1)
   refine Rg [.a] (sl 8 [(2, .c (.osl [2]))] [HV [2] 3 1 (eI .i64) ([]:List (Int))]) (aN) ?_
   refine Ae.ret ?_
   refine Tr ?_
   exact⟨.inr rfl, .inl ⟨[2],HV [2] 3 1 (eI .i64) ([]:List (Int)),0,by kernel_rfl,by kernel_rfl,by kernel_rfl,by kernel_rfl,by rw [h0];exact⟨rfl,rfl⟩⟩⟩
  ·refine Ae.skip ?_
   refine Tn ?_
   have hr:EW 8 ([]:List (Int)) a0=some a0:=by unfold EW;rw [if_pos ⟨by simpa using hb.1,by simpa using hb.2⟩];rfl
   refine Rg [.a, .a,(.e a0.length (a0.flatMap (eI .i64))), .a] (sl 8 [(2, .c (.osl [5]))] [HV [5] 3 1 (eI .i64) a0]) (aC (show (a0.flatMap (eI .i64)).length =a0.length*1 from Bo (enc:=eI .i64) (n:=1) (kk .i64) _)<|aC (dk hr (eI .i64))<|aC (IC hr)<|aN) ?_
   refine Ae.ret ?_
   exact⟨.inr rfl, .inl ⟨[5],HV [5] 3 1 (eI .i64) a0,a0.length,by kernel_rfl,by kernel_rfl,by kernel_rfl,AF _ (fun _=>rfl) _,⟨rfl,rfl⟩⟩⟩
 ·cases h
def Bp:CE TE Tryz.prog I0:=Pr 24 [.k (.lst 3)] 3 (fun x=>Am x.1) (fun x r h=>MN (by kernel_rfl) (Im (r:=r) h))
def NZ (a0:Int):Option (Int×Int):=
 some (L9 .u64 (IntKind.u64.wrap ((L9 .u64 (IntKind.u64.wrap ((L9 .u64 (IntKind.u64.wrap (a0+11400714819323198485)) (Int.fdiv (IntKind.u64.wrap (a0+11400714819323198485)) (2 ^ (min ((30:Int)).toNat (IntKind.u64).bits))))*(13787848793156543929:Int))) (Int.fdiv (IntKind.u64.wrap ((L9 .u64 (IntKind.u64.wrap (a0+11400714819323198485)) (Int.fdiv (IntKind.u64.wrap (a0+11400714819323198485)) (2 ^ (min ((30:Int)).toNat (IntKind.u64).bits))))*(13787848793156543929:Int))) (2 ^ (min ((27:Int)).toNat (IntKind.u64).bits))))*(10723151780598845931:Int))) (Int.fdiv (IntKind.u64.wrap ((L9 .u64 (IntKind.u64.wrap ((L9 .u64 (IntKind.u64.wrap (a0+11400714819323198485)) (Int.fdiv (IntKind.u64.wrap (a0+11400714819323198485)) (2 ^ (min ((30:Int)).toNat (IntKind.u64).bits))))*(13787848793156543929:Int))) (Int.fdiv (IntKind.u64.wrap ((L9 .u64 (IntKind.u64.wrap (a0+11400714819323198485)) (Int.fdiv (IntKind.u64.wrap (a0+11400714819323198485)) (2 ^ (min ((30:Int)).toNat (IntKind.u64).bits))))*(13787848793156543929:Int))) (2 ^ (min ((27:Int)).toNat (IntKind.u64).bits))))*(10723151780598845931:Int))) (2 ^ (min ((31:Int)).toNat (IntKind.u64).bits))),IntKind.u64.wrap (a0+11400714819323198485))
def Yg:CE TE Tryz.prog I0:=CG [] An Av 9 47 Tryz.f47 (Tryz.f47.body.getD .skip) .n [.k (.int .u64)] [.k (.int .u64), .k (.int .u64)] (fun x=>NZ x.1) Tryz.func47 rfl (by kernel_rfl)
def LZ (a0:Int) (a1:Int) (a2:Int) (a3:Int) (a4:Int):Option (Aa):=
 some (⟨a0,a1,a2,a2,a3,false,false,false,false,0,(⟨0,0,0⟩:A3 (Int)),a4,(-1:Int),(-1:Int),false,0,0⟩:Aa)
def MX:CE TE Tryz.prog I0:=CG [] An Av 9 14 Tryz.f14 (Tryz.f14.body.getD .skip) .n [.k (.int .i64), .k (.int .i64), .k (.int .i64), .k (.int .i64), .k (.int .i64)] [.s 60] (fun x=>LZ x.1 x.2.1 x.2.2.1 x.2.2.2.1 x.2.2.2.2.1) Tryz.func14 rfl (by kernel_rfl)
def B9 (a0:List (Int)):Option (List (Int)):=if a0.length*8≤140737488355328∧a0.length≤maxLen then some a0 else none
theorem L3 {a0 r:List (Int)} (h:B9 a0=some r):Bz Tryz.prog I0 15 [vL (eI .i64) a0] 3 1 (fun len cs=>len=r.length∧cs=r.flatMap (eI .i64)):=by
 refine Bz.of (t:=2) (m:=7) An (by kernel_rfl) Tryz.func15 rfl rfl Tryz.ntmps15 ?_
 intro w0 av old gv
 unfold B9 at h
 split at h
 ·rename_i hb
  injection h with h;subst h
  refine Rg [.a] (sl 7 [(0,vL (eI .i64) a0)] []) (aN) ?_
  have hr:EW 8 ([]:List (Int)) a0=some a0:=by unfold EW;rw [if_pos ⟨by simpa using hb.1,by simpa using hb.2⟩];rfl
  refine Ae.seq ?_
  refine Ae.region ?_
  refine Rp 1 [.a] (sl 7 [(0,vL (eI .i64) a0),(3,vL (eI .i64) a0)] []) (aN) ?_
  refine Run.inl rfl rfl (Eg.clip (len:=a0.length) (cs:=a0.flatMap (eI .i64)) 3 1 4 rfl rfl ?_)
  refine Rw [.a,(.e a0.length (a0.flatMap (eI .i64))), .a] (sl 7 [(0,vL (eI .i64) a0),(2, .c (.osl [4])),(3,vL (eI .i64) a0),(5,vL (eI .i64) a0),(6, .c (.osl [4]))] [HV [4] 3 1 (eI .i64) a0]) (aC (show (a0.flatMap (eI .i64)).length =a0.length*1 from Bo (enc:=eI .i64) (n:=1) (kk .i64) _)<|aC (dk hr (eI .i64))<|aC (IC hr)<|aN) ?_
  refine Tn ?_
  refine Ae.ret ?_
  exact⟨.inr rfl, .inl ⟨[4],HV [4] 3 1 (eI .i64) a0,a0.length,by kernel_rfl,by kernel_rfl,by kernel_rfl,AF _ (fun _=>rfl) _,⟨rfl,rfl⟩⟩⟩
 ·cases h
def IU:CE TE Tryz.prog I0:=Pr 15 [.k (.lst 3)] 3 (fun x=>B9 x.1) (fun x r h=>MN (by kernel_rfl) (L3 (r:=r) h))
def AJ (a0:List (Ar)):Option (List (Ar)):=if a0.length*152≤140737488355328∧a0.length≤maxLen then some a0 else none
theorem DI {a0 r:List (Ar)} (h:AJ a0=some r):Bz Tryz.prog I0 26 [vL (A7) a0] 52 14 (fun len cs=>len=r.length∧cs=r.flatMap (A7)):=by
 refine Bz.of (t:=2) (m:=8) An (by kernel_rfl) Tryz.func26 rfl rfl Tryz.ntmps26 ?_
 intro w0 av old gv
 unfold AJ at h
 split at h
 ·rename_i hb
  injection h with h;subst h
  refine Rg [.a] (sl 8 [(0,vL (A7) a0)] []) (aN) ?_
  refine Ae.seq ?_
  refine Ae.seq ?_
  refine Ae.region ?_
  refine Rp 1 [.a] (sl 8 [(0,vL (A7) a0),(3,vL (A7) a0)] []) (aN) ?_
  refine Run.inl rfl rfl (Eg.nilq (len:=a0.length) (cs:=a0.flatMap (A7)) rfl (fun b hbn=>?_))
  refine Rw [] (sl 8 [(0,vL (A7) a0),(3,vL (A7) a0),(4,vB b)] []) (aN) ?_
  refine Tn ?_
  refine Ae.ifB b (by kernel_rfl) (fun hb1=>?_) (fun hb1=>?_)
  ·have h0:a0=[]:=List.length_eq_zero_iff.1 (hbn hb1)
   refine Rg [.a] (sl 8 [(2, .c (.osl [2]))] [HV [2] 52 14 (A7) ([]:List (Ar))]) (aN) ?_
   refine Ae.ret ?_
   refine Tr ?_
   exact⟨.inr rfl, .inl ⟨[2],HV [2] 52 14 (A7) ([]:List (Ar)),0,by kernel_rfl,by kernel_rfl,by kernel_rfl,by kernel_rfl,by rw [h0];exact⟨rfl,rfl⟩⟩⟩
  ·refine Ae.skip ?_
   refine Tn ?_
   have hr:EW 152 ([]:List (Ar)) a0=some a0:=by unfold EW;rw [if_pos ⟨by simpa using hb.1,by simpa using hb.2⟩];rfl
   refine Rg [.a, .a,(.e a0.length (a0.flatMap (A7))), .a] (sl 8 [(2, .c (.osl [5]))] [HV [5] 52 14 (A7) a0]) (aC (show (a0.flatMap (A7)).length =a0.length*14 from Bo (enc:=A7) (n:=14) ZP _)<|aC (dk hr (A7))<|aC (IC hr)<|aN) ?_
   refine Ae.ret ?_
   exact⟨.inr rfl, .inl ⟨[5],HV [5] 52 14 (A7) a0,a0.length,by kernel_rfl,by kernel_rfl,by kernel_rfl,AF _ (fun _=>rfl) _,⟨rfl,rfl⟩⟩⟩
 ·cases h
def D9:CE TE Tryz.prog I0:=Pr 26 [.k (.lst 52)] 52 (fun x=>AJ x.1) (fun x r h=>MN (by kernel_rfl) (DI (r:=r) h))
def AK (a0:List (Aa)):Option (List (Aa)):=if a0.length*128≤140737488355328∧a0.length≤maxLen then some a0 else none
theorem DJ {a0 r:List (Aa)} (h:AK a0=some r):Bz Tryz.prog I0 28 [vL (A8) a0] 60 19 (fun len cs=>len=r.length∧cs=r.flatMap (A8)):=by
 refine Bz.of (t:=2) (m:=8) An (by kernel_rfl) Tryz.func28 rfl rfl Tryz.ntmps28 ?_
 intro w0 av old gv
 unfold AK at h
 split at h
 ·rename_i hb
  injection h with h;subst h
  refine Rg [.a] (sl 8 [(0,vL (A8) a0)] []) (aN) ?_
  refine Ae.seq ?_
  refine Ae.seq ?_
  refine Ae.region ?_
  refine Rp 1 [.a] (sl 8 [(0,vL (A8) a0),(3,vL (A8) a0)] []) (aN) ?_
  refine Run.inl rfl rfl (Eg.nilq (len:=a0.length) (cs:=a0.flatMap (A8)) rfl (fun b hbn=>?_))
  refine Rw [] (sl 8 [(0,vL (A8) a0),(3,vL (A8) a0),(4,vB b)] []) (aN) ?_
  refine Tn ?_
  refine Ae.ifB b (by kernel_rfl) (fun hb1=>?_) (fun hb1=>?_)
  ·have h0:a0=[]:=List.length_eq_zero_iff.1 (hbn hb1)
   refine Rg [.a] (sl 8 [(2, .c (.osl [2]))] [HV [2] 60 19 (A8) ([]:List (Aa))]) (aN) ?_
   refine Ae.ret ?_
   refine Tr ?_
   exact⟨.inr rfl, .inl ⟨[2],HV [2] 60 19 (A8) ([]:List (Aa)),0,by kernel_rfl,by kernel_rfl,by kernel_rfl,by kernel_rfl,by rw [h0];exact⟨rfl,rfl⟩⟩⟩
  ·refine Ae.skip ?_
   refine Tn ?_
   have hr:EW 128 ([]:List (Aa)) a0=some a0:=by unfold EW;rw [if_pos ⟨by simpa using hb.1,by simpa using hb.2⟩];rfl
   refine Rg [.a, .a,(.e a0.length (a0.flatMap (A8))), .a] (sl 8 [(2, .c (.osl [5]))] [HV [5] 60 19 (A8) a0]) (aC (show (a0.flatMap (A8)).length =a0.length*19 from Bo (enc:=A8) (n:=19) ZQ _)<|aC (dk hr (A8))<|aC (IC hr)<|aN) ?_
   refine Ae.ret ?_
   exact⟨.inr rfl, .inl ⟨[5],HV [5] 60 19 (A8) a0,a0.length,by kernel_rfl,by kernel_rfl,by kernel_rfl,AF _ (fun _=>rfl) _,⟨rfl,rfl⟩⟩⟩
 ·cases h
def Ea:CE TE Tryz.prog I0:=Pr 28 [.k (.lst 60)] 60 (fun x=>AK x.1) (fun x r h=>MN (by kernel_rfl) (DJ (r:=r) h))
def Bq (a0:List (AW)):Option (List (AW)):=if a0.length*824≤140737488355328∧a0.length≤maxLen then some a0 else none
theorem EA {a0 r:List (AW)} (h:Bq a0=some r):Bz Tryz.prog I0 29 [vL (BN) a0] 110 94 (fun len cs=>len=r.length∧cs=r.flatMap (BN)):=by
 refine Bz.of (t:=2) (m:=8) An (by kernel_rfl) Tryz.func29 rfl rfl Tryz.ntmps29 ?_
 intro w0 av old gv
 unfold Bq at h
 split at h
 ·rename_i hb
  injection h with h;subst h
  refine Rg [.a] (sl 8 [(0,vL (BN) a0)] []) (aN) ?_
  refine Ae.seq ?_
  refine Ae.seq ?_
  refine Ae.region ?_
  refine Rp 1 [.a] (sl 8 [(0,vL (BN) a0),(3,vL (BN) a0)] []) (aN) ?_
  refine Run.inl rfl rfl (Eg.nilq (len:=a0.length) (cs:=a0.flatMap (BN)) rfl (fun b hbn=>?_))
  refine Rw [] (sl 8 [(0,vL (BN) a0),(3,vL (BN) a0),(4,vB b)] []) (aN) ?_
  refine Tn ?_
  refine Ae.ifB b (by kernel_rfl) (fun hb1=>?_) (fun hb1=>?_)
  ·have h0:a0=[]:=List.length_eq_zero_iff.1 (hbn hb1)
   refine Rg [.a] (sl 8 [(2, .c (.osl [2]))] [HV [2] 110 94 (BN) ([]:List (AW))]) (aN) ?_
   refine Ae.ret ?_
   refine Tr ?_
   exact⟨.inr rfl, .inl ⟨[2],HV [2] 110 94 (BN) ([]:List (AW)),0,by kernel_rfl,by kernel_rfl,by kernel_rfl,by kernel_rfl,by rw [h0];exact⟨rfl,rfl⟩⟩⟩
  ·refine Ae.skip ?_
   refine Tn ?_
   have hr:EW 824 ([]:List (AW)) a0=some a0:=by unfold EW;rw [if_pos ⟨by simpa using hb.1,by simpa using hb.2⟩];rfl
   refine Rg [.a, .a,(.e a0.length (a0.flatMap (BN))), .a] (sl 8 [(2, .c (.osl [5]))] [HV [5] 110 94 (BN) a0]) (aC (show (a0.flatMap (BN)).length =a0.length*94 from Bo (enc:=BN) (n:=94) fM _)<|aC (dk hr (BN))<|aC (IC hr)<|aN) ?_
   refine Ae.ret ?_
   exact⟨.inr rfl, .inl ⟨[5],HV [5] 110 94 (BN) a0,a0.length,by kernel_rfl,by kernel_rfl,by kernel_rfl,AF _ (fun _=>rfl) _,⟨rfl,rfl⟩⟩⟩
 ·cases h
def Fc:CE TE Tryz.prog I0:=Pr 29 [.k (.lst 110)] 110 (fun x=>Bq x.1) (fun x r h=>MN (by kernel_rfl) (EA (r:=r) h))
def AP (a0:List (KX)):Option (List (KX)):=if a0.length*176≤140737488355328∧a0.length≤maxLen then some a0 else none
theorem Fd {a0 r:List (KX)} (h:AP a0=some r):Bz Tryz.prog I0 34 [vL (BM) a0] 123 20 (fun len cs=>len=r.length∧cs=r.flatMap (BM)):=by
 refine Bz.of (t:=2) (m:=8) An (by kernel_rfl) Tryz.func34 rfl rfl Tryz.ntmps34 ?_
 intro w0 av old gv
 unfold AP at h
 split at h
 ·rename_i hb
  injection h with h;subst h
  refine Rg [.a] (sl 8 [(0,vL (BM) a0)] []) (aN) ?_
  refine Ae.seq ?_
  refine Ae.seq ?_
  refine Ae.region ?_
  refine Rp 1 [.a] (sl 8 [(0,vL (BM) a0),(3,vL (BM) a0)] []) (aN) ?_
  refine Run.inl rfl rfl (Eg.nilq (len:=a0.length) (cs:=a0.flatMap (BM)) rfl (fun b hbn=>?_))
  refine Rw [] (sl 8 [(0,vL (BM) a0),(3,vL (BM) a0),(4,vB b)] []) (aN) ?_
  refine Tn ?_
  refine Ae.ifB b (by kernel_rfl) (fun hb1=>?_) (fun hb1=>?_)
  ·have h0:a0=[]:=List.length_eq_zero_iff.1 (hbn hb1)
   refine Rg [.a] (sl 8 [(2, .c (.osl [2]))] [HV [2] 123 20 (BM) ([]:List (KX))]) (aN) ?_
   refine Ae.ret ?_
   refine Tr ?_
   exact⟨.inr rfl, .inl ⟨[2],HV [2] 123 20 (BM) ([]:List (KX)),0,by kernel_rfl,by kernel_rfl,by kernel_rfl,by kernel_rfl,by rw [h0];exact⟨rfl,rfl⟩⟩⟩
  ·refine Ae.skip ?_
   refine Tn ?_
   have hr:EW 176 ([]:List (KX)) a0=some a0:=by unfold EW;rw [if_pos ⟨by simpa using hb.1,by simpa using hb.2⟩];rfl
   refine Rg [.a, .a,(.e a0.length (a0.flatMap (BM))), .a] (sl 8 [(2, .c (.osl [5]))] [HV [5] 123 20 (BM) a0]) (aC (show (a0.flatMap (BM)).length =a0.length*20 from Bo (enc:=BM) (n:=20) iS _)<|aC (dk hr (BM))<|aC (IC hr)<|aN) ?_
   refine Ae.ret ?_
   exact⟨.inr rfl, .inl ⟨[5],HV [5] 123 20 (BM) a0,a0.length,by kernel_rfl,by kernel_rfl,by kernel_rfl,AF _ (fun _=>rfl) _,⟨rfl,rfl⟩⟩⟩
 ·cases h
def CU:CE TE Tryz.prog I0:=Pr 34 [.k (.lst 123)] 123 (fun x=>AP x.1) (fun x r h=>MN (by kernel_rfl) (Fd (r:=r) h))
def Br (a0:List (H9)):Option (List (H9)):=if a0.length*144≤140737488355328∧a0.length≤maxLen then some a0 else none
theorem EB {a0 r:List (H9)} (h:Br a0=some r):Bz Tryz.prog I0 48 [vL (BC) a0] 141 18 (fun len cs=>len=r.length∧cs=r.flatMap (BC)):=by
 refine Bz.of (t:=2) (m:=8) An (by kernel_rfl) Tryz.func48 rfl rfl Tryz.ntmps48 ?_
 intro w0 av old gv
 unfold Br at h
 split at h
 ·rename_i hb
  injection h with h;subst h
  refine Rg [.a] (sl 8 [(0,vL (BC) a0)] []) (aN) ?_
  refine Ae.seq ?_
  refine Ae.seq ?_
  refine Ae.region ?_
  refine Rp 1 [.a] (sl 8 [(0,vL (BC) a0),(3,vL (BC) a0)] []) (aN) ?_
  refine Run.inl rfl rfl (Eg.nilq (len:=a0.length) (cs:=a0.flatMap (BC)) rfl (fun b hbn=>?_))
  refine Rw [] (sl 8 [(0,vL (BC) a0),(3,vL (BC) a0),(4,vB b)] []) (aN) ?_
  refine Tn ?_
  refine Ae.ifB b (by kernel_rfl) (fun hb1=>?_) (fun hb1=>?_)
  ·have h0:a0=[]:=List.length_eq_zero_iff.1 (hbn hb1)
   refine Rg [.a] (sl 8 [(2, .c (.osl [2]))] [HV [2] 141 18 (BC) ([]:List (H9))]) (aN) ?_
   refine Ae.ret ?_
   refine Tr ?_
   exact⟨.inr rfl, .inl ⟨[2],HV [2] 141 18 (BC) ([]:List (H9)),0,by kernel_rfl,by kernel_rfl,by kernel_rfl,by kernel_rfl,by rw [h0];exact⟨rfl,rfl⟩⟩⟩
  ·refine Ae.skip ?_
   refine Tn ?_
   have hr:EW 144 ([]:List (H9)) a0=some a0:=by unfold EW;rw [if_pos ⟨by simpa using hb.1,by simpa using hb.2⟩];rfl
   refine Rg [.a, .a,(.e a0.length (a0.flatMap (BC))), .a] (sl 8 [(2, .c (.osl [5]))] [HV [5] 141 18 (BC) a0]) (aC (show (a0.flatMap (BC)).length =a0.length*18 from Bo (enc:=BC) (n:=18) fL _)<|aC (dk hr (BC))<|aC (IC hr)<|aN) ?_
   refine Ae.ret ?_
   exact⟨.inr rfl, .inl ⟨[5],HV [5] 141 18 (BC) a0,a0.length,by kernel_rfl,by kernel_rfl,by kernel_rfl,AF _ (fun _=>rfl) _,⟨rfl,rfl⟩⟩⟩
 ·cases h
def Fe:CE TE Tryz.prog I0:=Pr 48 [.k (.lst 141)] 141 (fun x=>Br x.1) (fun x r h=>MN (by kernel_rfl) (EB (r:=r) h))
def Bb (a0:List (BT)):Option (List (BT)):=if a0.length*560≤140737488355328∧a0.length≤maxLen then some a0 else none
theorem DL {a0 r:List (BT)} (h:Bb a0=some r):Bz Tryz.prog I0 49 [vL (AU) a0] 148 64 (fun len cs=>len=r.length∧cs=r.flatMap (AU)):=by
 refine Bz.of (t:=2) (m:=8) An (by kernel_rfl) Tryz.func49 rfl rfl Tryz.ntmps49 ?_
 intro w0 av old gv
 unfold Bb at h
 split at h
 ·rename_i hb
  injection h with h;subst h
  refine Rg [.a] (sl 8 [(0,vL (AU) a0)] []) (aN) ?_
  refine Ae.seq ?_
  refine Ae.seq ?_
  refine Ae.region ?_
  refine Rp 1 [.a] (sl 8 [(0,vL (AU) a0),(3,vL (AU) a0)] []) (aN) ?_
  refine Run.inl rfl rfl (Eg.nilq (len:=a0.length) (cs:=a0.flatMap (AU)) rfl (fun b hbn=>?_))
  refine Rw [] (sl 8 [(0,vL (AU) a0),(3,vL (AU) a0),(4,vB b)] []) (aN) ?_
  refine Tn ?_
  refine Ae.ifB b (by kernel_rfl) (fun hb1=>?_) (fun hb1=>?_)
  ·have h0:a0=[]:=List.length_eq_zero_iff.1 (hbn hb1)
   refine Rg [.a] (sl 8 [(2, .c (.osl [2]))] [HV [2] 148 64 (AU) ([]:List (BT))]) (aN) ?_
   refine Ae.ret ?_
   refine Tr ?_
   exact⟨.inr rfl, .inl ⟨[2],HV [2] 148 64 (AU) ([]:List (BT)),0,by kernel_rfl,by kernel_rfl,by kernel_rfl,by kernel_rfl,by rw [h0];exact⟨rfl,rfl⟩⟩⟩
  ·refine Ae.skip ?_
   refine Tn ?_
   have hr:EW 560 ([]:List (BT)) a0=some a0:=by unfold EW;rw [if_pos ⟨by simpa using hb.1,by simpa using hb.2⟩];rfl
   refine Rg [.a, .a,(.e a0.length (a0.flatMap (AU))), .a] (sl 8 [(2, .c (.osl [5]))] [HV [5] 148 64 (AU) a0]) (aC (show (a0.flatMap (AU)).length =a0.length*64 from Bo (enc:=AU) (n:=64) ZN _)<|aC (dk hr (AU))<|aC (IC hr)<|aN) ?_
   refine Ae.ret ?_
   exact⟨.inr rfl, .inl ⟨[5],HV [5] 148 64 (AU) a0,a0.length,by kernel_rfl,by kernel_rfl,by kernel_rfl,AF _ (fun _=>rfl) _,⟨rfl,rfl⟩⟩⟩
 ·cases h
def Eb:CE TE Tryz.prog I0:=Pr 49 [.k (.lst 148)] 148 (fun x=>Bb x.1) (fun x r h=>MN (by kernel_rfl) (DL (r:=r) h))
def Bc (a0:List (D1)):Option (List (D1)):=if a0.length*16≤140737488355328∧a0.length≤maxLen then some a0 else none
theorem DM {a0 r:List (D1)} (h:Bc a0=some r):Bz Tryz.prog I0 31 [vL (A9) a0] 114 2 (fun len cs=>len=r.length∧cs=r.flatMap (A9)):=by
 refine Bz.of (t:=2) (m:=8) An (by kernel_rfl) Tryz.func31 rfl rfl Tryz.ntmps31 ?_
 intro w0 av old gv
 unfold Bc at h
 split at h
 ·rename_i hb
  injection h with h;subst h
  refine Rg [.a] (sl 8 [(0,vL (A9) a0)] []) (aN) ?_
  refine Ae.seq ?_
  refine Ae.seq ?_
  refine Ae.region ?_
  refine Rp 1 [.a] (sl 8 [(0,vL (A9) a0),(3,vL (A9) a0)] []) (aN) ?_
  refine Run.inl rfl rfl (Eg.nilq (len:=a0.length) (cs:=a0.flatMap (A9)) rfl (fun b hbn=>?_))
  refine Rw [] (sl 8 [(0,vL (A9) a0),(3,vL (A9) a0),(4,vB b)] []) (aN) ?_
  refine Tn ?_
  refine Ae.ifB b (by kernel_rfl) (fun hb1=>?_) (fun hb1=>?_)
  ·have h0:a0=[]:=List.length_eq_zero_iff.1 (hbn hb1)
   refine Rg [.a] (sl 8 [(2, .c (.osl [2]))] [HV [2] 114 2 (A9) ([]:List (D1))]) (aN) ?_
   refine Ae.ret ?_
   refine Tr ?_
   exact⟨.inr rfl, .inl ⟨[2],HV [2] 114 2 (A9) ([]:List (D1)),0,by kernel_rfl,by kernel_rfl,by kernel_rfl,by kernel_rfl,by rw [h0];exact⟨rfl,rfl⟩⟩⟩
  ·refine Ae.skip ?_
   refine Tn ?_
   have hr:EW 16 ([]:List (D1)) a0=some a0:=by unfold EW;rw [if_pos ⟨by simpa using hb.1,by simpa using hb.2⟩];rfl
   refine Rg [.a, .a,(.e a0.length (a0.flatMap (A9))), .a] (sl 8 [(2, .c (.osl [5]))] [HV [5] 114 2 (A9) a0]) (aC (show (a0.flatMap (A9)).length =a0.length*2 from Bo (enc:=A9) (n:=2) ZR _)<|aC (dk hr (A9))<|aC (IC hr)<|aN) ?_
   refine Ae.ret ?_
   exact⟨.inr rfl, .inl ⟨[5],HV [5] 114 2 (A9) a0,a0.length,by kernel_rfl,by kernel_rfl,by kernel_rfl,AF _ (fun _=>rfl) _,⟨rfl,rfl⟩⟩⟩
 ·cases h
def Ec:CE TE Tryz.prog I0:=Pr 31 [.k (.lst 114)] 114 (fun x=>Bc x.1) (fun x r h=>MN (by kernel_rfl) (DM (r:=r) h))
def AZ (a0:List (AC)):Option (List (AC)):=if a0.length*768≤140737488355328∧a0.length≤maxLen then some a0 else none
theorem Dk {a0 r:List (AC)} (h:AZ a0=some r):Bz Tryz.prog I0 32 [vL (AQ) a0] 117 89 (fun len cs=>len=r.length∧cs=r.flatMap (AQ)):=by
 refine Bz.of (t:=2) (m:=8) An (by kernel_rfl) Tryz.func32 rfl rfl Tryz.ntmps32 ?_
 intro w0 av old gv
 unfold AZ at h
 split at h
 ·rename_i hb
  injection h with h;subst h
  refine Rg [.a] (sl 8 [(0,vL (AQ) a0)] []) (aN) ?_
  refine Ae.seq ?_
  refine Ae.seq ?_
  refine Ae.region ?_
  refine Rp 1 [.a] (sl 8 [(0,vL (AQ) a0),(3,vL (AQ) a0)] []) (aN) ?_
  refine Run.inl rfl rfl (Eg.nilq (len:=a0.length) (cs:=a0.flatMap (AQ)) rfl (fun b hbn=>?_))
  refine Rw [] (sl 8 [(0,vL (AQ) a0),(3,vL (AQ) a0),(4,vB b)] []) (aN) ?_
  refine Tn ?_
  refine Ae.ifB b (by kernel_rfl) (fun hb1=>?_) (fun hb1=>?_)
  ·have h0:a0=[]:=List.length_eq_zero_iff.1 (hbn hb1)
   refine Rg [.a] (sl 8 [(2, .c (.osl [2]))] [HV [2] 117 89 (AQ) ([]:List (AC))]) (aN) ?_
   refine Ae.ret ?_
   refine Tr ?_
   exact⟨.inr rfl, .inl ⟨[2],HV [2] 117 89 (AQ) ([]:List (AC)),0,by kernel_rfl,by kernel_rfl,by kernel_rfl,by kernel_rfl,by rw [h0];exact⟨rfl,rfl⟩⟩⟩
  ·refine Ae.skip ?_
   refine Tn ?_
   have hr:EW 768 ([]:List (AC)) a0=some a0:=by unfold EW;rw [if_pos ⟨by simpa using hb.1,by simpa using hb.2⟩];rfl
   refine Rg [.a, .a,(.e a0.length (a0.flatMap (AQ))), .a] (sl 8 [(2, .c (.osl [5]))] [HV [5] 117 89 (AQ) a0]) (aC (show (a0.flatMap (AQ)).length =a0.length*89 from Bo (enc:=AQ) (n:=89) Yd _)<|aC (dk hr (AQ))<|aC (IC hr)<|aN) ?_
   refine Ae.ret ?_
   exact⟨.inr rfl, .inl ⟨[5],HV [5] 117 89 (AQ) a0,a0.length,by kernel_rfl,by kernel_rfl,by kernel_rfl,AF _ (fun _=>rfl) _,⟨rfl,rfl⟩⟩⟩
 ·cases h
def DN:CE TE Tryz.prog I0:=Pr 32 [.k (.lst 117)] 117 (fun x=>AZ x.1) (fun x r h=>MN (by kernel_rfl) (Dk (r:=r) h))
def Bs (a0:List (B4)):Option (List (B4)):=if a0.length*80≤140737488355328∧a0.length≤maxLen then some a0 else none
theorem EC {a0 r:List (B4)} (h:Bs a0=some r):Bz Tryz.prog I0 33 [vL (BO) a0] 120 6 (fun len cs=>len=r.length∧cs=r.flatMap (BO)):=by
 refine Bz.of (t:=2) (m:=8) An (by kernel_rfl) Tryz.func33 rfl rfl Tryz.ntmps33 ?_
 intro w0 av old gv
 unfold Bs at h
 split at h
 ·rename_i hb
  injection h with h;subst h
  refine Rg [.a] (sl 8 [(0,vL (BO) a0)] []) (aN) ?_
  refine Ae.seq ?_
  refine Ae.seq ?_
  refine Ae.region ?_
  refine Rp 1 [.a] (sl 8 [(0,vL (BO) a0),(3,vL (BO) a0)] []) (aN) ?_
  refine Run.inl rfl rfl (Eg.nilq (len:=a0.length) (cs:=a0.flatMap (BO)) rfl (fun b hbn=>?_))
  refine Rw [] (sl 8 [(0,vL (BO) a0),(3,vL (BO) a0),(4,vB b)] []) (aN) ?_
  refine Tn ?_
  refine Ae.ifB b (by kernel_rfl) (fun hb1=>?_) (fun hb1=>?_)
  ·have h0:a0=[]:=List.length_eq_zero_iff.1 (hbn hb1)
   refine Rg [.a] (sl 8 [(2, .c (.osl [2]))] [HV [2] 120 6 (BO) ([]:List (B4))]) (aN) ?_
   refine Ae.ret ?_
   refine Tr ?_
   exact⟨.inr rfl, .inl ⟨[2],HV [2] 120 6 (BO) ([]:List (B4)),0,by kernel_rfl,by kernel_rfl,by kernel_rfl,by kernel_rfl,by rw [h0];exact⟨rfl,rfl⟩⟩⟩
  ·refine Ae.skip ?_
   refine Tn ?_
   have hr:EW 80 ([]:List (B4)) a0=some a0:=by unfold EW;rw [if_pos ⟨by simpa using hb.1,by simpa using hb.2⟩];rfl
   refine Rg [.a, .a,(.e a0.length (a0.flatMap (BO))), .a] (sl 8 [(2, .c (.osl [5]))] [HV [5] 120 6 (BO) a0]) (aC (show (a0.flatMap (BO)).length =a0.length*6 from Bo (enc:=BO) (n:=6) fN _)<|aC (dk hr (BO))<|aC (IC hr)<|aN) ?_
   refine Ae.ret ?_
   exact⟨.inr rfl, .inl ⟨[5],HV [5] 120 6 (BO) a0,a0.length,by kernel_rfl,by kernel_rfl,by kernel_rfl,AF _ (fun _=>rfl) _,⟨rfl,rfl⟩⟩⟩
 ·cases h
def Ff:CE TE Tryz.prog I0:=Pr 33 [.k (.lst 120)] 120 (fun x=>Bs x.1) (fun x r h=>MN (by kernel_rfl) (EC (r:=r) h))
def Py (l3_1:List (Int)):Option ((List (Int))):=
 some l3_1
def N0 (vt9_6:Int) (l3_11:List (Int)):Option ((Int×(List (Int)))⊕((List (Int)))):=
 some (.inl ((Al (vt9_6+1)),l3_11))
def Pz (a0:Af) (vt9_6:Int) (l3_7:List (Int)):Option ((Int×(List (Int)))⊕((List (Int)))):=
 (if(decide (vt9_6<(a0.Players.length:Int)))=true then
  jn (fun(v:(List (Int)))=>N0 vt9_6 v) (fun jJ12=>
  (AN a0.Players vt9_6).bind fun e13=>
  (if(!e13.Lost)=true then
   (EW 8 l3_7 ([vt9_6]:List (Int))).bind fun l15=>
   jJ12 l15
  else
   jJ12 l3_7))
 else
  some (.inr l3_7))
def Jv (a0:Af):Option ((List (Int))):=
 jn (fun(v:(List (Int)))=>Py v) (fun jJ2=>
 (iter (fun(v:Int×(List (Int)))=>Pz a0 v.1 v.2) FU ((0:Int),([]:List (Int)))).bind (fun o0=>jJ2 o0))
def Kk:CE TE Tryz.prog I0:=CG [] An Av 9 37 Tryz.f37 (Tryz.f37.body.getD .skip) (.s .n (.s .n (.j ⟨[],[(3, .c (.c (.osl [3])))],[],[([3], .row 3)]⟩ (.s .n (.l ⟨[7,8],[(3, .c (.c (.osl [3]))),(9, .c (.v (.k (.int .i64))))],[],[([3], .row 3)]⟩ [(1,⟨[],[(3, .c (.c (.osl [3])))],[],[([3], .row 3)]⟩)] (.s .n (.s .n (.j ⟨[7,8,9],[(3, .c (.c (.osl [3])))],[],[([3], .row 3)]⟩ .n .n))))) .n))) [.s 31] [.k (.lst 3)] (fun x=>Jv x.1) Tryz.func37 rfl (by kernel_rfl)
def In (a0:Int):Option (Bool):=
 some (a0 != a0)
def PA:CE TE Tryz.prog I0:=CG [] An Av 9 73 Tryz.f73 (Tryz.f73.body.getD .skip) .n [.k (.int .i64)] [.k (.bool)] (fun x=>In x.1) Tryz.func73 rfl (by kernel_rfl)
def IV:Option (Int):=
 some (-1:Int)
def IW (a0:List (Int)) (a1:Int) (vt8_3:Int):Option ((Int)⊕(Unit⊕Int)):=
 (if(decide (vt8_3<(a0.length:Int)))=true then
  (AN a0 vt8_3).bind fun e7=>
  (if(a1==e7)=true then
   some (.inr (.inr vt8_3))
  else
   some (.inl (Al (vt8_3+1))))
 else
  some (.inr (.inl ())))
def DO (a0:List (Int)) (a1:Int):Option (Int):=
 jn (fun(v:Unit)=>IV) (fun jJ1=>
 (iter (fun(v:Int)=>IW a0 a1 v) FU (0:Int)).bind (Sum.elim (fun o0=>jJ1 ()) (fun o1=>some o1)))
def Fg:CE TE Tryz.prog I0:=CG [] An Av 9 51 Tryz.f51 (Tryz.f51.body.getD .skip) (.s .n (.j ⟨[],[],[],[]⟩ (.s .n (.l ⟨[0,1,7],[(8, .c (.v (.k (.int .i64))))],[],[]⟩ [(1,⟨[],[],[],[]⟩),(0,⟨[],[(4, .c (.v (.k (.int .i64))))],[],[]⟩)] .n)) .n)) [.k (.lst 3), .k (.int .i64)] [.k (.int .i64)] (fun x=>DO x.1 x.2.1) Tryz.func51 rfl (by kernel_rfl)
def TF (vt8_1:Int):Option (Int):=
 some vt8_1
def TG (jJ2:(Int)→Option (Int)):Option (Int):=
 jJ2 (-1:Int)
def FP (a0:Af) (a1:Int) (vt8_5:Int):Option ((Int)⊕(Unit⊕Int)):=
 (if(decide (vt8_5<(a0.Objects.length:Int)))=true then
  (AN a0.Objects vt8_5).bind fun e9=>
  (if(e9.Id==a1)=true then
   some (.inr (.inr vt8_5))
  else
   some (.inl (Al (vt8_5+1))))
 else
  some (.inr (.inl ())))
def L4 (a0:Af) (a1:Int):Option (Int):=
 jn (fun(v:Int)=>TF v) (fun jJ2=>
 jn (fun(v:Unit)=>TG jJ2) (fun jJ3=>
 (iter (fun(v:Int)=>FP a0 a1 v) FU (0:Int)).bind (Sum.elim (fun o0=>jJ3 ()) (fun o1=>jJ2 o1))))
def Wz:CE TE Tryz.prog I0:=CG [] An Av 9 74 Tryz.f74 (Tryz.f74.body.getD .skip) (.s .n (.s (.r [] [] (.j 3 ⟨[],[(8, .c (.v (.k (.int .i64))))],[],[]⟩ (.s .n (.j ⟨[],[],[[2],[3]],[]⟩ (.s .n (.l ⟨[0,1,7],[(8, .c (.v (.k (.int .i64))))],[[2],[3]],[]⟩ [(1,⟨[],[],[[2],[3]],[]⟩),(0,⟨[],[(4, .c (.v (.k (.int .i64))))],[[2],[3]],[]⟩)] (.s .n (.s .n (.s (.s .n (.s (.r [] [] (.c 5 .n .n)) .n)) .n))))) .n)) .n)) .n)) [.s 31, .k (.int .i64)] [.k (.int .i64)] (fun x=>L4 x.1 x.2.1) Tryz.func74 rfl (by kernel_rfl)
def TH (a0:Bw) (vt19_4:Bool):Option (Bool):=
 (if vt19_4=true then
  some ((a0.Options.length:Int)==0)
 else
  (if(a0.Kind==3)=true then
   (some (if(a0.Least==0)=true then true else a0.Least==(a0.Options.length:Int))).bind fun b8=>
   (some (if(a0.Least==a0.Most)=true then b8 else false)).bind fun b9=>
   some b9
  else
   (if(a0.Kind==5)=true then
    some (a0.Least==a0.Most)
   else
    some true)))
def TI (a0:Bw) (vt9_1:Bool):Option (Bool):=
 (if vt9_1=true then
  some (decide ((a0.Options.length:Int)≤1))
 else
  jn (fun(v:Bool)=>TH a0 v) (fun jJ5=>
  (if(a0.Kind==6)=true then
   jJ5 (a0.Kind==6)
  else
   jJ5 (a0.Kind==7))))
def HF (a0:Bw):Option (Bool):=
 jn (fun(v:Bool)=>TI a0 v) (fun jJ2=>
 (if(a0.Kind==1)=true then
  jJ2 (a0.Kind==1)
 else
  (if(a0.Kind==2)=true then
   jJ2 (a0.Kind==2)
  else
   (if(a0.Kind==9)=true then
    jJ2 (a0.Kind==9)
   else
    (if(a0.Kind==10)=true then
     jJ2 (a0.Kind==10)
    else
     (if(a0.Kind==11)=true then
      jJ2 (a0.Kind==11)
     else
      (if(a0.Kind==4)=true then
       jJ2 (a0.Kind==4)
      else
       jJ2 (a0.Kind==8))))))))
def MY:CE TE Tryz.prog I0:=CG [] An Av 9 40 Tryz.f40 (Tryz.f40.body.getD .skip) (.s .n (.s .n (.s (.s .n (.j ⟨[1,3,8],[(9, .c (.v (.k (.bool))))],[[1]],[]⟩ .n (.i .n (.j ⟨[1,3,8],[(19, .c (.v (.k (.bool))))],[[1]],[]⟩ .n .n)))) .n))) [.s 45] [.k (.bool)] (fun x=>HF x.1) Tryz.func40 rfl (by kernel_rfl)
def WA (l3_1:List (Int)):Option ((List (Int))):=
 some l3_1
def WB (a0:Int) (vt6_6:Int) (l3_7:List (Int)):Option ((Int×(List (Int)))⊕((List (Int)))):=
 (if(decide (vt6_6<a0))=true then
  (EW 8 l3_7 ([vt6_6]:List (Int))).bind fun l11=>
  some (.inl ((Al (vt6_6+1)),l11))
 else
  some (.inr l3_7))
def N1 (a0:Int):Option ((List (Int))):=
 jn (fun(v:(List (Int)))=>WA v) (fun jJ2=>
 (iter (fun(v:Int×(List (Int)))=>WB a0 v.1 v.2) FU ((0:Int),([]:List (Int)))).bind (fun o0=>jJ2 o0))
def Yh:CE TE Tryz.prog I0:=CG [] An Av 9 57 Tryz.f57 (Tryz.f57.body.getD .skip) (.s .n (.s .n (.j ⟨[],[(3, .c (.c (.osl [3])))],[],[([3], .row 3)]⟩ (.s .n (.l ⟨[5],[(3, .c (.c (.osl [3]))),(6, .c (.v (.k (.int .i64))))],[],[([3], .row 3)]⟩ [(1,⟨[],[(3, .c (.c (.osl [3])))],[],[([3], .row 3)]⟩)] .n)) .n))) [.k (.int .i64)] [.k (.lst 3)] (fun x=>N1 x.1) Tryz.func57 rfl (by kernel_rfl)
def PB (a0:Bw) (a1:List (Int)) (sum_t5_1:Int):Option (Bool):=
 (some (if((a1.length:Int)==(a0.Options.length:Int))=true then sum_t5_1==a0.N else false)).bind fun b3=>
 some b3
def N2 (a1:List (Int)) (sum_t5_6:Int) (vt10_7:Int):Option ((Int×Int)⊕(Int⊕Bool)):=
 (if(decide (vt10_7<(a1.length:Int)))=true then
  (AN a1 vt10_7).bind fun e12=>
  (some (if(decide (e12<0))=true then true else decide (1000000<e12))).bind fun b13=>
  (if b13=true then
   some (.inr (.inr false))
  else
   some (.inl ((Al (sum_t5_6+e12)),(Al (vt10_7+1)))))
 else
  some (.inr (.inl sum_t5_6)))
def MZ (a0:Bw) (a1:List (Int)):Option (Bool):=
 jn (fun(v:Int)=>PB a0 a1 v) (fun jJ2=>
 (iter (fun(v:Int×Int)=>N2 a1 v.1 v.2) FU ((0:Int),(0:Int))).bind (Sum.elim (fun o0=>jJ2 o0) (fun o1=>some o1)))
def Sf:CE TE Tryz.prog I0:=CG [] An Av 9 60 Tryz.f60 (Tryz.f60.body.getD .skip) (.s .n (.s .n (.j ⟨[1,2],[(5, .c (.v (.k (.int .i64))))],[[2]],[]⟩ (.s .n (.l ⟨[1,2,8,9],[(5, .c (.v (.k (.int .i64)))),(10, .c (.v (.k (.int .i64))))],[[2]],[]⟩ [(1,⟨[1,2],[(5, .c (.v (.k (.int .i64))))],[[2]],[]⟩),(0,⟨[],[(4, .c (.v (.k (.bool))))],[],[]⟩)] .n)) .n))) [.s 45, .k (.lst 3)] [.k (.bool)] (fun x=>MZ x.1 x.2.1) Tryz.func60 rfl (by kernel_rfl)
def Cu (a0:List (Ba)):Option (List (Ba)):=if a0.length*24≤140737488355328∧a0.length≤maxLen then some a0 else none
theorem HJ {a0 r:List (Ba)} (h:Cu a0=some r):Bz Tryz.prog I0 22 [vL (Bj) a0] 76 3 (fun len cs=>len=r.length∧cs=r.flatMap (Bj)):=by
 refine Bz.of (t:=2) (m:=7) An (by kernel_rfl) Tryz.func22 rfl rfl Tryz.ntmps22 ?_
 intro w0 av old gv
 unfold Cu at h
 split at h
 ·rename_i hb
  injection h with h;subst h
  refine Rg [.a] (sl 7 [(0,vL (Bj) a0)] []) (aN) ?_
  have hr:EW 24 ([]:List (Ba)) a0=some a0:=by unfold EW;rw [if_pos ⟨by simpa using hb.1,by simpa using hb.2⟩];rfl
  refine Ae.seq ?_
  refine Ae.region ?_
  refine Rp 1 [.a] (sl 7 [(0,vL (Bj) a0),(3,vL (Bj) a0)] []) (aN) ?_
  refine Run.inl rfl rfl (Eg.clip (len:=a0.length) (cs:=a0.flatMap (Bj)) 76 3 4 rfl rfl ?_)
  refine Rw [.a,(.e a0.length (a0.flatMap (Bj))), .a] (sl 7 [(0,vL (Bj) a0),(2, .c (.osl [4])),(3,vL (Bj) a0),(5,vL (Bj) a0),(6, .c (.osl [4]))] [HV [4] 76 3 (Bj) a0]) (aC (show (a0.flatMap (Bj)).length =a0.length*3 from Bo (enc:=Bj) (n:=3) ZT _)<|aC (dk hr (Bj))<|aC (IC hr)<|aN) ?_
  refine Tn ?_
  refine Ae.ret ?_
  exact⟨.inr rfl, .inl ⟨[4],HV [4] 76 3 (Bj) a0,a0.length,by kernel_rfl,by kernel_rfl,by kernel_rfl,AF _ (fun _=>rfl) _,⟨rfl,rfl⟩⟩⟩
 ·cases h
def IX:CE TE Tryz.prog I0:=Pr 22 [.k (.lst 76)] 76 (fun x=>Cu x.1) (fun x r h=>MN (by kernel_rfl) (HJ (r:=r) h))
end Go.PL
