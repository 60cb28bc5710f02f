/- Functions of the program, as partial functions in Lean, with proofs. -/
import Derived.Test.YtiddnfpjgojoaaaGreatDoorPlEdB
import Derived.Test.YtiddnfpjgojoaaaGreatDoorPlEdF1
import Derived.Test.YtiddnfpjgojoaaaGreatDoorPlEdF10
import Derived.Test.YtiddnfpjgojoaaaGreatDoorPlEdF12
import Derived.Test.YtiddnfpjgojoaaaGreatDoorPlEdF13
import Derived.Test.YtiddnfpjgojoaaaGreatDoorPlEdF2
import Derived.Test.YtiddnfpjgojoaaaGreatDoorPlEdF5
namespace Go.PL
open Go Go.RowKit Go.Proofs
set_option maxRecDepth 100000
set_option linter.all false
set_option maxHeartbeats 4000000
attribute [local irreducible] Aj BO Bz
def Vk (out_t3_3:List UInt8):Option ((List UInt8)):=
 some out_t3_3
def FT (a0:List (BI)) (i_t4_8:Int) (out_t3_16:List UInt8):Option (((List UInt8)×Int)⊕((List UInt8)⊕(List UInt8))):=
 (idx a0 i_t4_8).bind fun e18=>
 (Rx e18).bind fun r19=>
 (cat out_t3_16 r19).bind fun s20=>
 some (.inl (s20,(Ac (i_t4_8+1))))
def FV (a0:List (BI)) (out_t3_7:List UInt8) (i_t4_8:Int):Option (((List UInt8)×Int)⊕((List UInt8)⊕(List UInt8))):=
 (if(decide (i_t4_8<(a0.length:Int)))=true then
  (idx a0 i_t4_8).bind fun e13=>
  (ST e13).bind fun r14=>
  (if(!r14)=true then
   some (.inr (.inr ([]:List UInt8)))
  else
   jn (fun(v:(List UInt8))=>FT a0 i_t4_8 v) (fun jJ17=>
   (if(decide (0<i_t4_8))=true then
    (cat out_t3_7 SG).bind fun s22=>
    jJ17 s22
   else
    jJ17 out_t3_7)))
 else
  some (.inr (.inl out_t3_7)))
def Ee (a0:List (BI)):Option ((List UInt8)):=
 (some (if((a0.length:Int)==0)=true then true else decide (6<(a0.length:Int)))).bind fun b1=>
 (if b1=true then
  some ([]:List UInt8)
 else
  jn (fun(v:(List UInt8))=>Vk v) (fun jJ4=>
  (iter (fun(v:(List UInt8)×Int)=>FV a0 v.1 v.2) FU (([]:List UInt8),(0:Int))).bind (Sum.elim (fun o0=>jJ4 o0) (fun o1=>some o1))))
def Iu:CE TE Tryz.prog I0:=AK [Yc,ma] Ab Ad 9 57 Tryz.f57 (Tryz.f57.body.getD .skip) (.s .n (.s .n (.s .n (.j ⟨[],[(3, .c (.v (.k (.str))))],[],[]⟩ (.s .n (.l ⟨[0],[(3, .c (.v (.k (.str)))),(4, .c (.v (.k (.int .i64))))],[],[]⟩ [(1,⟨[],[(3, .c (.v (.k (.str))))],[],[]⟩),(0,⟨[],[(2, .c (.v (.k (.str))))],[],[]⟩)] (.s .n (.s (.s .n (.j ⟨[0,4],[(3, .c (.v (.k (.str))))],[],[]⟩ .n .n)) .n)))) .n)))) [.k (.lst 151)] [.k (.str)] (fun x=>Ee x.1) Tryz.func57 rfl (by kernel_rfl)
def Lv (a0:BB) (b6:Bool) (vt109_26:Bool):Option (Bool):=
 (if vt109_26=true then
  (some (if b6=true then decide (0≤a0.Who)else false)).bind fun b29=>
  (some (if b29=true then decide (a0.Who≤2)else false)).bind fun b30=>
  (some (if b30=true then a0.Filter==(⟨0,0,0,0,0,0,0,[],0,0,(⟨0,0⟩:Az),(⟨0,0⟩:Az),(⟨0,0⟩:Az)⟩:Ar)else false)).bind fun b31=>
  some b31
 else
  some false)
def d8 (a0:BB):Option (Bool):=
 (if(a0.On==2)=true then
  (Od a0).bind fun r2=>
  some r2
 else
  (N4 a0).bind fun r3=>
  (if(!r3)=true then
   some false
  else
   (some (if(a0.Do==3)=true then true else a0.Do==4)).bind fun b5=>
   (some (if b5=true then true else a0.Do==8)).bind fun b6=>
   (if(a0.On==1)=true then
    (some (if(a0.Do != 1)=true then a0.Do != 2 else false)).bind fun b8=>
    (some (if b8=true then a0.Do != 3 else false)).bind fun b9=>
    (some (if b9=true then a0.Do != 4 else false)).bind fun b10=>
    (if b10=true then
     some false
    else
     (gd ((a0.Who==0)==true) (Hw a0.Filter)).bind fun r12=>
     (some (if(a0.Who==0)=true then r12 else false)).bind fun b13=>
     (some (if(a0.Who==1)=true then true else a0.Who==2)).bind fun b14=>
     (some (if b14=true then a0.Filter==(⟨0,0,0,0,0,0,0,[],0,0,(⟨0,0⟩:Az),(⟨0,0⟩:Az),(⟨0,0⟩:Az)⟩:Ar)else false)).bind fun b15=>
     (some (if b13=true then true else b15)).bind fun b16=>
     some b16)
   else
    (if(a0.On==8)=true then
     (some (if b6=true then a0.Who==0 else false)).bind fun b18=>
     (gd (b18==true) (Hw a0.Filter)).bind fun r19=>
     (some (if b18=true then r19 else false)).bind fun b20=>
     some b20
    else
     (if(a0.On==3)=true then
      (some (if(a0.Do==4)=true then true else a0.Do==8)).bind fun b22=>
      (some (if b22=true then decide (0≤a0.Who)else false)).bind fun b23=>
      (some (if b23=true then decide (a0.Who≤2)else false)).bind fun b24=>
      (some (if b24=true then a0.Filter==(⟨0,0,0,0,0,0,0,[],0,0,(⟨0,0⟩:Az),(⟨0,0⟩:Az),(⟨0,0⟩:Az)⟩:Ar)else false)).bind fun b25=>
      some b25
     else
      jn (fun(v:Bool)=>Lv a0 b6 v) (fun jJ27=>
      (if(a0.On==4)=true then
       jJ27 (a0.On==4)
      else
       (if(a0.On==5)=true then
        jJ27 (a0.On==5)
       else
        jJ27 (a0.On==10)))))))))
def se:CE TE Tryz.prog I0:=AK [iJ,gZ,UW] Ab Ad 9 82 Tryz.f82 (Tryz.f82.body.getD .skip) (.s .n (.s .n (.s .n (.s .n (.s .n (.s (.s .n (.s .n (.i .n (.s .n (.i .n (.s .n (.i .n (.j ⟨[1,3,4],[(109, .c (.v (.k (.bool))))],[[1]],[]⟩ .n .n)))))))) .n)))))) [.s 111] [.k (.bool)] (fun x=>d8 x.1) Tryz.func82 rfl (by kernel_rfl)
def C2 (l11_2:List (Int)):Option ((List (Int))):=
 some l11_2
def CF (k_t9_6:Int) (l11_11:List (Int)):Option ((Int×(List (Int)))⊕((List (Int)))):=
 some (.inl ((Ac (k_t9_6+1)),l11_11))
def CG (k_t9_6:Int) (l11_7:List (Int)) (n_t10_16:Int):Option ((Int×(List (Int)))⊕((List (Int)))):=
 (app 8 l11_7 ([n_t10_16]:List (Int))).bind fun l18=>
 CF k_t9_6 l18
def D4 (a0:AD) (a1:Int) (a2:Int) (e1:AU) (k_t9_6:Int) (l11_7:List (Int)):Option ((Int×(List (Int)))⊕((List (Int)))):=
 (if(decide (k_t9_6<(e1.Mods.length:Int)))=true then
  (idx e1.Mods k_t9_6).bind fun e13=>
  (Dw e13.Kind).bind fun r14=>
  (if(r14 != a2)=true then
   CF k_t9_6 l11_7
  else
   (idx e1.Mods k_t9_6).bind fun e19=>
   (if(e19.Kind==11)=true then
    (K7 a0 a1).bind fun r21=>
    (idx e1.Mods k_t9_6).bind fun e22=>
    (Nb a0.S a0.All r21 e1.Source e22.Filter).bind fun r23=>
    CG k_t9_6 l11_7 (r23.length:Int)
   else
    CG k_t9_6 l11_7 (0:Int)))
 else
  some (.inr l11_7))
def D5 (a0:AD) (a1:Int) (a2:Int):Option ((List (Int))):=
 (idx a0.L a1).bind fun e1=>
 (iter (fun(v:Int×(List (Int)))=>D4 a0 a1 a2 e1 v.1 v.2) FU ((0:Int),([]:List (Int)))).bind (fun o0=>C2 o0)
def Zl (a0:AD) (a1:Int) (a2:Int) (r:(List (Int))):Prop:=AQ Tryz.prog I0 71 [vA Av a0,vI a1,vI a2] (· =vL (eI .i64) r)
theorem Iv {a0:AD} {a1:Int} {a2:Int} {r:(List (Int))} (h:D5 a0 a1 a2=some r):Zl a0 a1 a2 r:=by
 refine AQ.bo Ab Tryz.func71 rfl Tryz.ntmps71 [.tmp 6] fun _ _ _ _=>?_
 unfold D5 at h
 refine Gg [.a,.a] (uo [0] [(3,vP [3] (0))] [.e (bx [3] (Av a0))]) (aN)<|Gg [.a,.a] (uo [] [(7,vO [11])] [.e (BA [11] 3 1 (eI .i64) ([]:List (Int))),.k 0]) (aN) ?_
 obtain⟨e1,p1,h⟩:=bS h
 refine Gg [.a,.a,.a,.a,(.v (vA AA e1)),.a,.a] (uo [] [(8,vP [8] (0))] [.e (bx [8] (AA e1)),.k 0,.k 1]) (aC (BS p1)<|aC (Pg p1 NW 0 23 true (vA AA e1))<|aC (Eq.refl (vA AA e1))<|aN)<|Sj (X:=(List (Int))) (fun v=>(sl 62 [(7,vO [11])] [BA [11] 3 1 (eI .i64) v])) (fun v=>C2 v=some r) ?_ ?_
 ·refine Gg [.a] (u [] [(9,vI 0)]) (aN)<|hB ?_
  obtain⟨j2,x1,h⟩:=bS h
  refine Gi (fun(v:Int×(List (Int)))=>(uo [] [(9,vI v.1)] [.k 0,.e (BA [11] 3 1 (eI .i64) v.2),.k 2])) x1 (wT) ?_
  rintro⟨i0,k0⟩ x0 j0 y1
  replace j0:D4 a0 a1 a2 e1 i0 k0=some x0:=j0
  unfold D4 at j0
  refine hS<|Gg (nA 5) (u [] [(21,vB (decide (i0<(e1.Mods.length:Int))))]) (aN)<|iC j0 (fun j0=>?_) (fun j0=>?_)
  ·refine hK<|Tn<|Gj (X:=(List (Int))) (fun v=>(uo [21] [] [.k 0,.e (BA [11] 3 1 (eI .i64) v),.k 2])) (fun v=>CF i0 v=some x0) ?_ ?_
   ·refine hB<|hS ?_
    obtain⟨j1,k1,q1,z1,j0⟩:=YG j0
    refine Gg [.a,.a,.a,.a,.a,(.v (vI j1.Kind)),(.c (vI q1)),.a,.a] (u [21] [(32,vB (q1 != a2))]) (aC (BS k1)<|aC (Pg k1 KP 0 1 false (vI j1.Kind))<|aC (Eq.refl (vI j1.Kind))<|aC (Q0 z1)<|aN)<|iC j0 (fun j0=>?_) (fun j0=>?_)
    ·refine hE<|Te<|qX<|Tn ⟨k0,j0,wT⟩
    refine hK<|Tn<|Rg [.a] (sl 62 [(1,vI a1),(2,vI a2),(3,vP [3] (0)),(7,vO [11]),(8,vP [8] (0)),(9,vI i0),(10,vI 0)] [bx [8] (AA e1),BA [11] 3 1 (eI .i64) k0,bx [3] (Av a0)]) (aN)<|Gj (X:=Int) (fun v=>(u [] [(10,vI v)])) (fun v=>CG i0 k0 v=some x0) ?_ ?_
    ·obtain⟨q0,m1,j0⟩:=bS j0
     refine Gg [.a,.a,.a,.a,.a,(.v (vI q0.Kind)),.a] (u [] [(39,vB (q0.Kind==11))]) (aC (BS m1)<|aC (Pg m1 KP 0 1 false (vI q0.Kind))<|aC (Eq.refl (vI q0.Kind))<|aN)<|iC j0 (fun j0=>?_) (fun j0=>?_)
     ·obtain⟨t1,d2,y0,n1,t0,i2,j0⟩:=wd j0
      refine Aj.regS Ad [[],[0],[],[2],[],[],[4,5],[],[7],[],[9],[],[9,10,11],[9,10,11,12],[9,10,11,12,13],[0,1,2,3,4,5,6,7,8,9,10,11,12,13,14],[0,1,2,3,4,5,6,7,8,9,10,11,12,13,14,15],[0,1,2,3,4,5,6,7,8,9,10,11,12,13,14,15,16]] [] [[]] [.a,.a,.a,.a,.a,.a,(.c (vI t1)),.a,.a,.a,.a,.a,.a,.a,(.v (vA B0 y0.Filter)),(.c (vL (eI .i64) t0)),.a,.a] [[8],[11],[3]] ⟨nk 62 0 [(1,[],vI a1),(2,[],vI a2),(3,[],vP [3] (0)),(7,[],vO [11]),(8,[],vP [8] (0)),(9,[],vI i0),(10,[(17,vI (t0.length:Int))],vI 0),(39,[],vB (q0.Kind==11)),(40,[(0,vP [3] (0))],.undef),(41,[(1,vA A4 a0.S)],.undef),(42,[(2,vP [3] (19))],.undef),(43,[(3,vL Ag a0.All)],.undef),(44,[(4,vA Av a0)],.undef),(45,[(5,vI a1)],.undef),(46,[(6,vI t1)],.undef),(47,[(7,vP [8] (0))],.undef),(48,[(8,vI e1.Source)],.undef),(49,[(9,vP [8] (22))],.undef),(50,[(10,vL Bg e1.Mods)],.undef),(51,[(11,vI i0)],.undef),(52,[(12,vX Bg e1.Mods ((i0).toNat *20))],.undef),(53,[(13,vX Bg e1.Mods ((i0).toNat *20+4))],.undef),(54,[(14,vA B0 y0.Filter)],.undef),(55,[(15,vL (eI .i64) t0)],.undef),(56,[(16,vI (t0.length:Int))],.undef)],[([],some (bx [8] (AA e1))),([],some (BA [11] 3 1 (eI .i64) k0)),([],some (bx [3] (Av a0)))],[],[]⟩ _ (bC (aN)<|bC (aN)<|bC (aN)<|bC (aN)<|bC (aN)<|bC (aN)<|bC (aC (X0 d2)<|aN)<|bC (aN)<|bC (aN)<|bC (aN)<|bC (aN)<|bC (aN)<|bC (aC (BS n1)<|aN)<|bC (aN)<|bC (aC (Pg n1 KP 4 16 true (vA B0 y0.Filter))<|aC (Eq.refl (vA B0 y0.Filter))<|aN)<|bC (aC (iO i2)<|aN)<|bC (aN)<|bC (aN)<|bN)<|Tn ⟨(t0.length:Int),j0,wT⟩
     refine hK<|Tn ⟨0,j0,wT⟩
    rintro m0 n0
    replace n0:CG i0 k0 m0=some x0:=n0
    unfold CG at n0
    obtain⟨i1,o1,n0⟩:=bS n0
    refine Ge [.a,.a,.a,(.e i1.length (i1.flatMap (eI .i64))),.a] (uo [] [(58,vI m0),(59,vO [59]),(60,vO [11])] [.e (BA [11] 3 1 (eI .i64) i1),.e (BA [59] 3 1 (eI .i64) ([m0]:List (Int))),.k 0,.k 2]) (aC (Z7 o1 (eI .i64))<|aC (DL o1)<|aN)<|qN<|Tn ⟨i1,n0,wU⟩
   rintro o0 p0
   replace p0:CF i0 o0=some x0:=p0
   unfold CF at p0
   refine Re (nA 3) (sl 62 [(1,vI a1),(2,vI a2),(3,vP [3] (0)),(7,vO [11]),(8,vP [8] (0)),(9,vI (Ac (i0+1))),(22,vI i0),(23,vI (Ac (i0+1)))] [bx [8] (AA e1),BA [11] 3 1 (eI .i64) o0,bx [3] (Av a0)]) (aN)<|Tn ⟨((Ac (i0+1)),o0),(sI p0).symm,wT⟩
  refine hE<|Te ?_
  obtain rfl:=y1 _ (sI j0).symm
  refine Te<|qX<|Tn ⟨k0,h,wT⟩
 rintro d1 z0
 replace z0:C2 d1=some r:=z0
 unfold C2 at z0
 exact Gg [.a,.a] (u [7] [(6,vO [11])]) (aN)<|hR<|bE (vO [11]) (vL (eI .i64) d1) (congrArg (vL (eI .i64)) (sI z0))
def Dr (b5_1:Ah):Option (Ah):=
 some b5_1
def Cu (k_t12_7:Int) (n_t11_12:Int) (b5_13:Ah):Option ((Int×Int×Ah)⊕(Ah)):=
 some (.inl (n_t11_12,(Ac (k_t12_7+1)),b5_13))
def C3 (a1:AU) (a2:Int) (a3:Int) (a4:List (Int)) (n_t11_6:Int) (k_t12_7:Int) (b5_8:Ah):Option ((Int×Int×Ah)⊕(Ah)):=
 (if(decide (k_t12_7<(a1.Mods.length:Int)))=true then
  (idx a1.Mods k_t12_7).bind fun e15=>
  (Dw e15.Kind).bind fun r16=>
  (if(r16==a2)=true then
   (idx a1.Mods k_t12_7).bind fun e18=>
   (idx a4 n_t11_6).bind fun e19=>
   (Kp b5_8 e18 a3 e19).bind fun r20=>
   Cu k_t12_7 (Ac (n_t11_6+1)) r20
  else
   Cu k_t12_7 n_t11_6 b5_8)
 else
  some (.inr b5_8))
def Fm (a0:Ah) (a1:AU) (a2:Int) (a3:Int) (a4:List (Int)):Option (Ah):=
 (iter (fun(v:Int×Int×Ah)=>C3 a1 a2 a3 a4 v.1 v.2.1 v.2.2) FU ((0:Int),(0:Int),a0)).bind (fun o0=>Dr o0)
def Ye (a0:Ah) (a1:AU) (a2:Int) (a3:Int) (a4:List (Int)) (r:Ah):Prop:=AQ Tryz.prog I0 74 [vA Ag a0,vA AA a1,vI a2,vI a3,vL (eI .i64) a4] (· =vA Ag r)
theorem Vl {a0:Ah} {a1:AU} {a2:Int} {a3:Int} {a4:List (Int)} {r:Ah} (h:Fm a0 a1 a2 a3 a4=some r):Ye a0 a1 a2 a3 a4 r:=by
 refine AQ.bo Ab Tryz.func74 rfl Tryz.ntmps74 [.cell 10 70] fun _ _ _ _=>?_
 unfold Fm at h
 refine Gg (nA 3) (uo [0,1] [(5,vP [5] (0)),(6,vP [6] (0)),(10,vP [10] (0))] [.e (bx [10] [.str ([]),Aa 0,Aa 0,Aa (((⟨0,0,0,0,0⟩:A5 (Int))).x0),Aa (((⟨0,0,0,0,0⟩:A5 (Int))).x1),Aa (((⟨0,0,0,0,0⟩:A5 (Int))).x2),Aa (((⟨0,0,0,0,0⟩:A5 (Int))).x3),Aa (((⟨0,0,0,0,0⟩:A5 (Int))).x4),Aa 0,Aa 0,Aa 0,.nils,Aa 0,Aa 0,Aa 0,.nils,Aa 0]),.e (bx [6] (AA a1)),.e (bx [5] (Ag a0))]) (aN)<|Gg [.a] (u [] [(11,vI 0)]) (aN)<|Gj (X:=Ah) (fun v=>(uo [2,3,4,6,11] [] [.k 0,.e (bx [5] (Ag v))])) (fun v=>Dr v=some r) ?_ ?_
 ·refine Gg [.a] (u [] [(12,vI 0)]) (aN)<|hB ?_
  obtain⟨z1,p1,h⟩:=bS h
  refine Gi (fun(v:Int×Int×Ah)=>(uo [] [(11,vI v.1),(12,vI v.2.1)] [.k 0,.k 1,.e (bx [5] (Ag v.2.2))])) p1 (wT) ?_
  rintro⟨k0,i0,m0⟩ t0 j0 q1
  replace j0:C3 a1 a2 a3 a4 k0 i0 m0=some t0:=j0
  unfold C3 at j0
  refine hS<|Gg (nA 5) (u [] [(17,vB (decide (i0<(a1.Mods.length:Int))))]) (aN)<|iC j0 (fun j0=>?_) (fun j0=>?_)
  ·refine hK<|Tn<|Gj (X:=Int×Ah) (fun v=>(uo [17] [(11,vI v.1)] [.k 0,.k 1,.e (bx [5] (Ag v.2))])) (fun v=>Cu i0 v.1 v.2=some t0) ?_ ?_
   ·refine hB ?_
    obtain⟨j1,k1,o1,t1,j0⟩:=YG j0
    refine Gg [.a,.a,.a,.a,.a,(.v (vI j1.Kind)),(.c (vI o1)),.a,.a] (u [17] [(28,vB (o1==a2))]) (aC (BS k1)<|aC (Pg k1 KP 0 1 false (vI j1.Kind))<|aC (Eq.refl (vI j1.Kind))<|aC (Q0 t1)<|aN)<|iC j0 (fun j0=>?_) (fun j0=>?_)
    ·refine hS ?_
     obtain⟨z0,m1,d1,n1,q0,y1,j0⟩:=wd j0
     refine Aj.regS Ad [[],[],[1],[],[1,2,3],[1,2,3,4],[],[],[],[7,8],[7,8,9],[0,1,2,3,4,5,6,7,8,9,10],[0,1,2,3,4,5,6,7,8,9,10,11]] [12] [[false],[true]] [.a,.a,.a,.a,.a,(.v (vA Bg z0)),.a,.a,.a,.a,(.v (vI d1)),(.c (vA Ag q0)),.a] [[10],[6],[5]] ⟨nk 44 0 [(2,[],vI a2),(3,[],vI a3),(4,[],vL (eI .i64) a4),(5,[],vP [5] (0)),(6,[],vP [6] (0)),(10,[],vP [10] (0)),(11,[],vI k0),(12,[],vI i0),(28,[],vB (o1==a2)),(29,[(0,vA Ag m0)],.undef),(30,[(1,vP [6] (22))],.undef),(31,[(2,vL Bg a1.Mods)],.undef),(32,[(3,vI i0)],.undef),(33,[(4,vX Bg a1.Mods ((i0).toNat *20))],.undef),(34,[(5,vA Bg z0)],.undef),(35,[(6,vI a3)],.undef),(36,[(7,vL (eI .i64) a4)],.undef),(37,[(8,vI k0)],.undef),(38,[(9,vX (eI .i64) a4 ((k0).toNat *1))],.undef),(39,[(10,vI d1)],.undef),(40,[(11,vA Ag q0)],.undef)],[([],some (bx [10] [.str ([]),Aa 0,Aa 0,Aa (((⟨0,0,0,0,0⟩:A5 (Int))).x0),Aa (((⟨0,0,0,0,0⟩:A5 (Int))).x1),Aa (((⟨0,0,0,0,0⟩:A5 (Int))).x2),Aa (((⟨0,0,0,0,0⟩:A5 (Int))).x3),Aa (((⟨0,0,0,0,0⟩:A5 (Int))).x4),Aa 0,Aa 0,Aa 0,.nils,Aa 0,Aa 0,Aa 0,.nils,Aa 0])),([],some (bx [6] (AA a1))),([(12,bx [5] (Ag q0))],some (bx [5] (Ag m0)))],[],[]⟩ _ (bC (aN)<|bC (aN)<|bC (aN)<|bC (aN)<|bC (aC (BS m1)<|aN)<|bC (aC (Pg m1 KP 0 20 true (vA Bg z0))<|aC (Eq.refl (vA Bg z0))<|aN)<|bC (aN)<|bC (aN)<|bC (aN)<|bC (aC (BS n1)<|aN)<|bC (aC (Pg n1 (U9 .i64) 0 1 false (vI d1))<|aC (Eq.refl (vI d1))<|aN)<|bC (aC (d6 y1)<|aN)<|bC (aN)<|bN)<|Tn<|Gs (u [28,29,30,31,32,33,34,35,36,37,38,39,40] [])<|Re (nA 3) (sl 44 [(2,vI a2),(3,vI a3),(4,vL (eI .i64) a4),(5,vP [5] (0)),(6,vP [6] (0)),(10,vP [10] (0)),(11,vI (Ac (k0+1))),(12,vI i0),(41,vI k0),(42,vI (Ac (k0+1)))] [bx [10] [.str ([]),Aa 0,Aa 0,Aa (((⟨0,0,0,0,0⟩:A5 (Int))).x0),Aa (((⟨0,0,0,0,0⟩:A5 (Int))).x1),Aa (((⟨0,0,0,0,0⟩:A5 (Int))).x2),Aa (((⟨0,0,0,0,0⟩:A5 (Int))).x3),Aa (((⟨0,0,0,0,0⟩:A5 (Int))).x4),Aa 0,Aa 0,Aa 0,.nils,Aa 0,Aa 0,Aa 0,.nils,Aa 0],bx [6] (AA a1),bx [5] (Ag q0)]) (aN)<|qN<|Tn ⟨((Ac (k0+1)),q0),j0,wT⟩
    refine hK<|qN<|Tn ⟨(k0,m0),j0,wT⟩
   rintro⟨n0,y0⟩ p0
   replace p0:Cu i0 n0 y0=some t0:=p0
   unfold Cu at p0
   refine Ge (nA 3) (u [] [(12,vI (Ac (i0+1))),(18,vI i0),(19,vI (Ac (i0+1)))]) (aN)<|Tn ⟨(n0,(Ac (i0+1)),y0),(sI p0).symm,wT⟩
  refine hE<|Te ?_
  obtain rfl:=q1 _ (sI j0).symm
  refine Te<|qX<|Tn ⟨m0,h,wT⟩
 rintro o0 i1
 replace i1:Dr o0=some r:=i1
 unfold Dr at i1
 exact Gg [.a,.a] (uo [5] [] [.e (bx [10] (Ag o0))]) (aN)<|hR<|bE (vA Ag o0) (.agg (Ag o0)) (congrArg (vA Ag) (sI i1))
end Go.PL
