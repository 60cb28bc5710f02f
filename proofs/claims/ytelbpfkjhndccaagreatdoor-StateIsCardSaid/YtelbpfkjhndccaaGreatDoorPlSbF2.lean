/- Functions of the program, as partial functions in Lean, with proofs. -/
import Derived.Test.YtelbpfkjhndccaaGreatDoorPlSbB
namespace Go.PL
open Go Go.RowKit Go.Proofs
set_option maxRecDepth 100000
set_option linter.all false
set_option maxHeartbeats 4000000
attribute [local irreducible] Ak Ca BP
def Q9 (a0:Al):Option (Al):=
 some ({{{a0 with Damage:=(0:Int)}with Deadly:=false}with Shield:=(0:Int)})
def ch (a0:Al) (r:Al):Prop:=Af Tryz.prog I0 103 [vA Ad a0] (· =vA Ad r)
theorem ZE {a0:Al} {r:Al} (h:Q9 a0=some r):ch a0 r:=by
 refine Af.bo Ae Tryz.func103 rfl Tryz.ntmps103 [.cell 2 63] fun _ _ _ _=>?_
 unfold Q9 at h
 exact Rg [.a,.a] (sl 7 [(1,vP [1] (0)),(2,vP [2] (0))] [bx [2] [Aa 0,Aa 0,Aa 0,Aa 0,Aa 0,.bool false,.bool false,.bool false,.bool false,Aa 0,Aa (((⟨0,0,0⟩:A3 (Int))).x0),Aa (((⟨0,0,0⟩:A3 (Int))).x1),Aa (((⟨0,0,0⟩:A3 (Int))).x2),Aa 0,Aa 0,Aa 0,.bool false,Aa 0,Aa 0],bx [1] (Ad a0)]) (aN)<|Gg [.a,.a] (uo [] [] [.k 0,.e (bx [1] (Ad ({a0 with Damage:=(0:Int)})))]) (aN)<|Gg [.a,.a] (uo [] [] [.k 0,.e (bx [1] (Ad ({{a0 with Damage:=(0:Int)}with Deadly:=false})))]) (aN)<|Gg [.a,.a] (uo [] [] [.k 0,.e (bx [1] (Ad ({{{a0 with Damage:=(0:Int)}with Deadly:=false}with Shield:=(0:Int)})))]) (aN)<|Gg [.a,.a] (uo [1] [] [.e (bx [2] (Ad ({{{a0 with Damage:=(0:Int)}with Deadly:=false}with Shield:=(0:Int)})))]) (aN)<|hR<|bE (vA Ad ({{{a0 with Damage:=(0:Int)}with Deadly:=false}with Shield:=(0:Int)})) (.agg (Ad ({{{a0 with Damage:=(0:Int)}with Deadly:=false}with Shield:=(0:Int)}))) (congrArg (vA Ad) (sI h))
def Lq (n_t5_1:Int):Option (Int):=
 some n_t5_1
def F8 (i_t6_6:Int) (n_t5_10:Int):Option ((Int×Int)⊕(Int)):=
 some (.inl (n_t5_10,(Ab (i_t6_6+1))))
def Jg (a0:Ai) (a1:Int) (n_t5_5:Int) (i_t6_6:Int):Option ((Int×Int)⊕(Int)):=
 (if(decide (i_t6_6<(a0.Stack.length:Int)))=true then
  (idx a0.Stack i_t6_6).bind fun e12=>
  (gd ((e12.Kind==1)==true) (idx a0.Stack i_t6_6)).bind fun e13=>
  (some (if(e12.Kind==1)=true then e13.Id==a1 else false)).bind fun b14=>
  (if b14=true then
   F8 i_t6_6 (Ab (n_t5_5+1))
  else
   F8 i_t6_6 n_t5_5)
 else
  some (.inr n_t5_5))
def Ns (a0:Ai) (a1:Int):Option (Int):=
 (iter (fun(v:Int×Int)=>Jg a0 a1 v.1 v.2) FU ((0:Int),(0:Int))).bind (fun o0=>Lq o0)
def ZF (a0:Ai) (a1:Int) (r:Int):Prop:=Af Tryz.prog I0 104 [vA Aj a0,vI a1] (· =vI r)
theorem XA {a0:Ai} {a1:Int} {r:Int} (h:Ns a0 a1=some r):ZF a0 a1 r:=by
 refine Af.bo Ae Tryz.func104 rfl Tryz.ntmps104 [.tmp 4] fun _ _ _ _=>?_
 unfold Ns at h
 refine Gg [.a,.a] (uo [0] [(2,vP [2] (0))] [.e (bx [2] (Aj a0))]) (aN)<|Gg [.a] (u [] [(5,vI 0)]) (aN)<|Sj (X:=Int) (fun v=>(sl 34 [(5,vI v)] [])) (fun v=>Lq v=some r) ?_ ?_
 ·refine Gg [.a] (u [] [(6,vI 0)]) (aN)<|hB ?_
  obtain⟨m1,j1,h⟩:=bS h
  refine Gi (fun(v:Int×Int)=>(u [] [(5,vI v.1),(6,vI v.2)])) j1 (wT) ?_
  rintro⟨k0,j0⟩ z0 i0 k1
  replace i0:Jg a0 a1 k0 j0=some z0:=i0
  unfold Jg at i0
  refine hS<|Gg (nA 5) (u [] [(11,vB (decide (j0<(a0.Stack.length:Int))))]) (aN)<|iC i0 (fun i0=>?_) (fun i0=>?_)
  ·refine hK<|Tn<|Gj (X:=Int) (fun v=>(u [11] [(5,vI v)])) (fun v=>F8 j0 v=some z0) ?_ ?_
   ·refine hB ?_
    obtain⟨m0,x0,t0,y0,d1,i1,i0⟩:=I8 i0
    refine Gg [.a,.a,.a,.a,.a,(.v (vI m0.Kind)),.a,.a,.a,.a,.a,.a,.a,(.v (vI t0.Id)),.a,.a,(.v (vB d1))] (u [11] [(30,vB d1)]) (aC (AI x0)<|aC (DI x0 Ha 1 1 false (vI m0.Kind))<|aC (Eq.refl (vI m0.Kind))<|aG ((m0.Kind==1)==true)<|aC (fun hg:((m0.Kind==1)==true)=true=>aC (gi ((m0.Kind==1)==true))<|aC (gi ((m0.Kind==1)==true))<|aC (KW y0 hg).1<|aN)<|aG ((m0.Kind==1)==true)<|aC (fun hg:((m0.Kind==1)==true)=true=>aC (gi ((m0.Kind==1)==true))<|aC (DI (G8 y0 hg) Ha 0 1 false (vI t0.Id))<|aC (Eq.refl (vI t0.Id))<|aN)<|aH ((m0.Kind==1)==true)<|aT (m0.Kind==1)<|aB i1<|aN)<|iC i0 (fun i0=>?_) (fun i0=>?_)
    ·refine Ge (nA 3) (u [] [(5,vI (Ab (k0+1))),(31,vI k0),(32,vI (Ab (k0+1)))]) (aN)<|qN<|Tn ⟨(Ab (k0+1)),i0,wT⟩
    refine hK<|qN<|Tn ⟨k0,i0,wT⟩
   rintro n0 o0
   replace o0:F8 j0 n0=some z0:=o0
   unfold F8 at o0
   refine Ge (nA 3) (u [] [(6,vI (Ab (j0+1))),(12,vI j0),(13,vI (Ab (j0+1)))]) (aN)<|Tn ⟨(n0,(Ab (j0+1))),(sI o0).symm,wT⟩
  refine hE<|Te ?_
  obtain rfl:=k1 _ (sI i0).symm
  refine Te<|qX<|Tn ⟨k0,h,wT⟩
 rintro p0 q0
 replace q0:Lq p0=some r:=q0
 unfold Lq at q0
 exact Rg [.a,.a] (sl 34 [(4,vI p0)] []) (aN)<|hR<|bQ _ (congrArg vI (sI q0))
def JA:Option (Bool):=
 some true
def Ma (a0:List (Bq)) (a1:List (Bq)) (i_t5_4:Int):Option ((Int)⊕(Unit⊕Unit)):=
 (if(decide (i_t5_4<(a0.length:Int)))=true then
  (idx a0 i_t5_4).bind fun e7=>
  (idx a1 i_t5_4).bind fun e8=>
  (if(!(e7==e8))=true then
   some (.inr (.inr ()))
  else
   some (.inl (Ab (i_t5_4+1))))
 else
  some (.inr (.inl ())))
def Iq (a0:List (Bq)) (a1:List (Bq)):Option (Bool):=
 (if((a0.length:Int) != (a1.length:Int))=true then
  some false
 else
  (iter (fun(v:Int)=>Ma a0 a1 v) FU (0:Int)).bind (Sum.elim (fun o0=>JA) (fun o1=>some false)))
def WC (a0:List (Bq)) (a1:List (Bq)) (r:Bool):Prop:=Af Tryz.prog I0 148 [vL Ao a0,vL Ao a1] (· =vB r)
theorem PK {a0:List (Bq)} {a1:List (Bq)} {r:Bool} (h:Iq a0 a1=some r):WC a0 a1 r:=by
 refine Af.bo Ae Tryz.func148 rfl Tryz.ntmps148 [.tmp 4] fun _ _ _ _=>?_
 unfold Iq at h
 refine Gg [.a] (u [] []) (aN)<|hS<|Gg (nA 5) (u [] [(10,vB ((a0.length:Int) != (a1.length:Int)))]) (aN)<|iC h (fun h=>?_) (fun h=>?_)
 ·exact Rg [.a] (sl 26 [(4,vB false)] []) (aN)<|hR<|Tr<|bQ _ (kB h)
 refine hK<|Tn<|Sj (X:=Unit) (fun v=>(sl 26 [] [])) (fun v=>JA=some r) ?_ ?_
 ·refine Gg [.a] (u [10] [(5,vI 0)]) (aN)<|hB ?_
  obtain⟨t0,p0,h⟩:=bS h
  refine Gi (fun(v:Int)=>(u [] [(5,vI v)])) p0 (wT) ?_
  rintro j0 q0 i0 m0
  replace i0:Ma a0 a1 j0=some q0:=i0
  unfold Ma at i0
  refine hS<|Gg (nA 4) (u [] [(14,vB (decide (j0<(a0.length:Int))))]) (aN)<|iC i0 (fun i0=>?_) (fun i0=>?_)
  ·refine hK<|Tn<|hS<|hB ?_
   obtain⟨e7,n0,e8,o0,i0⟩:=Ex i0
   refine Gq BF [.a,.a,.a,(.v (vA Ao e7)),.a,.a,.a,(.v (vA Ao e8)),(.v (vB (!(e7==e8))))] (u [14] [(25,vB (!(e7==e8)))]) (aC (AI n0)<|aC (DI n0 Kg 0 20 true (vA Ao e7))<|aC (Eq.refl (vA Ao e7))<|aC (AI o0)<|aC (DI o0 Kg 0 20 true (vA Ao e8))<|aC (Eq.refl (vA Ao e8))<|aC (congrArg (fun z=>V.c (.bool (!z))) (Zp e7 e8))<|aN)<|iC i0 (fun i0=>?_) (fun i0=>?_)
   ·refine Rg [.a] (sl 26 [(4,vB false)] []) (aN)<|hR<|qR<|Tr ?_
    obtain rfl:=m0 _ (sI i0).symm
    replace h:=Cy h
    exact Tr<|qR<|Tr<|bQ _ (kB h)
   refine hK<|qN<|Tn<|Ge (nA 3) (u [] [(5,vI (Ab (j0+1))),(15,vI j0),(16,vI (Ab (j0+1)))]) (aN)<|Tn ⟨(Ab (j0+1)),(sI i0).symm,wT⟩
  refine hE<|Te ?_
  obtain rfl:=m0 _ (sI i0).symm
  replace h:=CZ h
  refine Te<|qX<|Tn ⟨(),h,wT⟩
 rintro _ k0
 replace k0:JA=some r:=k0
 unfold JA at k0
 exact Rg [.a] (sl 26 [(4,vB true)] []) (aN)<|hR<|bQ _ (kB k0)
def Mu:Option (Bool):=
 some true
def Oe (a_t0_9:Int) (b_t1_10:Int) (i_t7_11:Int):Option ((Int×Int×Int)⊕(Unit⊕Unit)):=
 (if(decide (i_t7_11<6))=true then
  (some (if((Int.tmod a_t0_9 (2:Int))==(1:Int))=true then(Int.tmod b_t1_10 (2:Int))==(1:Int)else false)).bind fun b14=>
  (if b14=true then
   some (.inr (.inr ()))
  else
   some (.inl ((Ab (Int.tdiv a_t0_9 (2:Int))),(Ab (Int.tdiv b_t1_10 (2:Int))),(Ab (i_t7_11+1)))))
 else
  some (.inr (.inl ())))
def Ht (a0:Int) (a1:Int) (a2:Int):Option (Bool):=
 (some (if(decide (a0<0))=true then true else decide (a2<a0))).bind fun b1=>
 (some (if b1=true then true else decide (a1<0))).bind fun b2=>
 (some (if b2=true then true else decide (a2<a1))).bind fun b3=>
 (if b3=true then
  some false
 else
  (iter (fun(v:Int×Int×Int)=>Oe v.1 v.2.1 v.2.2) FU (a0,a1,(0:Int))).bind (Sum.elim (fun o0=>Mu) (fun o1=>some false)))
def ci (a0:Int) (a1:Int) (a2:Int) (r:Bool):Prop:=Af Tryz.prog I0 150 [vI a0,vI a1,vI a2] (· =vB r)
theorem SS {a0:Int} {a1:Int} {a2:Int} {r:Bool} (h:Ht a0 a1 a2=some r):ci a0 a1 a2 r:=by
 refine Af.bo Ae Tryz.func150 rfl Tryz.ntmps150 [.tmp 6] fun _ _ _ _=>?_
 unfold Ht at h
 refine Gg [.a] (u [] []) (aN)<|hS ?_
 obtain⟨b1,y0,b2,z0,b3,d1,h⟩:=I8 h
 refine Gg [.a,.a,.a,.a,.a,.a,(.v (vB b1)),.a,.a,.a,(.v (vB b2)),.a,.a,.a,.a,(.v (vB b3))] (u [2] [(23,vB b3)]) (aH ((decide (a0<0))==false)<|aF (decide (a0<0))<|aB y0<|aG (b1==false)<|aF b1<|aB z0<|aH (b2==false)<|aF b2<|aB d1<|aN)<|iC h (fun h=>?_) (fun h=>?_)
 ·exact Rg [.a] (sl 40 [(6,vB false)] []) (aN)<|hR<|Tr<|bQ _ (kB h)
 refine hK<|Tn<|Sj (X:=Unit) (fun v=>(sl 40 [] [])) (fun v=>Mu=some r) ?_ ?_
 ·refine Gg [.a] (u [23] [(7,vI 0)]) (aN)<|hB ?_
  obtain⟨i1,p0,h⟩:=bS h
  refine It (fun(v:Int×Int×Int)=>(sl 40 [(0,vI v.1),(1,vI v.2.1),(7,vI v.2.2)] [])) p0 (wT) ?_
  rintro⟨k0,m0,j0⟩ x0 i0 o0
  replace i0:Oe k0 m0 j0=some x0:=i0
  unfold Oe at i0
  refine hS<|Gg [.a,.a] (u [] [(25,vB (decide (j0<6)))]) (aN)<|iC i0 (fun i0=>?_) (fun i0=>?_)
  ·refine hK<|Tn<|hS<|hB<|hS ?_
   obtain⟨q0,t0,i0⟩:=bS i0
   refine Gg [.a,.a,.a,.a,.a,.a,.a,(.v (vB q0))] (u [25] [(35,vB q0)]) (aC (show (2:Int) ≠ 0 from(by decide))<|aC (fun hg:(((Int.tmod k0 (2:Int))==(1:Int))==true)=true=>aC (gi (((Int.tmod k0 (2:Int))==(1:Int))==true))<|aC (show (2:Int) ≠ 0 from(by decide))<|aN)<|aG (((Int.tmod k0 (2:Int))==(1:Int))==true)<|aT ((Int.tmod k0 (2:Int))==(1:Int))<|aB t0<|aN)<|iC i0 (fun i0=>?_) (fun i0=>?_)
   ·refine Rg [.a] (sl 40 [(6,vB false)] []) (aN)<|hR<|Tr<|qR<|Tr ?_
    obtain rfl:=o0 _ (sI i0).symm
    replace h:=Cy h
    exact Tr<|qR<|Tr<|bQ _ (kB h)
   refine hK<|Tn<|Gg (nA 3) (u [35] [(0,vI (Ab (Int.tdiv k0 (2:Int))))]) (aC (show (2:Int) ≠ 0 from(by decide))<|aN)<|Ge (nA 3) (u [] [(1,vI (Ab (Int.tdiv m0 (2:Int)))),(38,vI m0),(39,vI (Ab (Int.tdiv m0 (2:Int))))]) (aC (show (2:Int) ≠ 0 from(by decide))<|aN)<|qN<|Tn<|Ge (nA 3) (u [] [(7,vI (Ab (j0+1))),(26,vI j0),(27,vI (Ab (j0+1)))]) (aN)<|Tn ⟨((Ab (Int.tdiv k0 (2:Int))),(Ab (Int.tdiv m0 (2:Int))),(Ab (j0+1))),(sI i0).symm,wT⟩
  refine hE<|Te ?_
  obtain rfl:=o0 _ (sI i0).symm
  replace h:=CZ h
  refine Te<|qX<|Tn ⟨(),h,wT⟩
 rintro _ n0
 replace n0:Mu=some r:=n0
 unfold Mu at n0
 exact Rg [.a] (sl 40 [(6,vB true)] []) (aN)<|hR<|bQ _ (kB n0)
def Ks:Option ((List (List UInt8))):=
 some ([H9,GL]:List (List UInt8))
def TI (r:(List (List UInt8))):Prop:=Af Tryz.prog I0 197 [] (· =vL eS r)
theorem ST {r:(List (List UInt8))} (h:Ks=some r):TI r:=by
 refine Af.bo Ae Tryz.func197 rfl Tryz.ntmps197 [.tmp 0] fun _ _ _ _=>?_
 unfold Ks at h
 exact Rg [.a] (sl 2 [] []) (aN)<|Rg [.a,.a] (sl 2 [(0,vO [1])] [Bp [1] 9 1 eS ([H9,GL]:List (List UInt8))]) (aN)<|hR<|bE (vO [1]) (vL eS ([H9,GL]:List (List UInt8))) (congrArg (vL eS) (sI h))
def Mv:Option (Int):=
 some (-1:Int)
def Fy (a0:List (List UInt8)) (a1:List UInt8) (i_t5_3:Int):Option ((Int)⊕(Unit⊕Int)):=
 (if(decide (i_t5_3<(a0.length:Int)))=true then
  (idx a0 i_t5_3).bind fun e7=>
  (if(e7==a1)=true then
   some (.inr (.inr i_t5_3))
  else
   some (.inl (Ab (i_t5_3+1))))
 else
  some (.inr (.inl ())))
def MM (a0:List (List UInt8)) (a1:List UInt8):Option (Int):=
 (iter (fun(v:Int)=>Fy a0 a1 v) FU (0:Int)).bind (Sum.elim (fun o0=>Mv) (fun o1=>some o1))
def cj (a0:List (List UInt8)) (a1:List UInt8) (r:Int):Prop:=Af Tryz.prog I0 196 [vL eS a0,vS a1] (· =vI r)
theorem SU {a0:List (List UInt8)} {a1:List UInt8} {r:Int} (h:MM a0 a1=some r):cj a0 a1 r:=by
 refine Af.bo Ae Tryz.func196 rfl Tryz.ntmps196 [.tmp 4] fun _ _ _ _=>?_
 unfold MM at h
 refine Gg [.a] (u [] []) (aN)<|Sj (X:=Unit) (fun v=>(sl 19 [] [])) (fun v=>Mv=some r) ?_ ?_
 ·refine Gg [.a] (u [] [(5,vI 0)]) (aN)<|hB ?_
  obtain⟨q0,o0,h⟩:=bS h
  refine Gi (fun(v:Int)=>(u [] [(5,vI v)])) o0 (wT) ?_
  rintro j0 p0 i0 m0
  replace i0:Fy a0 a1 j0=some p0:=i0
  unfold Fy at i0
  refine hS<|Gg (nA 4) (u [] [(9,vB (decide (j0<(a0.length:Int))))]) (aN)<|iC i0 (fun i0=>?_) (fun i0=>?_)
  ·refine hK<|Tn<|hS<|hB ?_
   obtain⟨e7,n0,i0⟩:=bS i0
   refine Gg [.a,.a,.a,(.v (vS e7)),.a,.a] (u [9] [(17,vB (e7==a1))]) (aC (AI n0)<|aC (DI n0 OB 0 1 false (vS e7))<|aC (Eq.refl (vS e7))<|aN)<|iC i0 (fun i0=>?_) (fun i0=>?_)
   ·refine Rg [.a,.a] (sl 19 [(4,vI j0)] []) (aN)<|hR<|qR<|Tr ?_
    obtain rfl:=m0 _ (sI i0).symm
    replace h:=Cy h
    exact Tr<|qR<|Tr<|bQ _ (congrArg vI (sI h))
   refine hK<|qN<|Tn<|Ge (nA 3) (u [] [(5,vI (Ab (j0+1))),(10,vI j0),(11,vI (Ab (j0+1)))]) (aN)<|Tn ⟨(Ab (j0+1)),(sI i0).symm,wT⟩
  refine hE<|Te ?_
  obtain rfl:=m0 _ (sI i0).symm
  replace h:=CZ h
  refine Te<|qX<|Tn ⟨(),h,wT⟩
 rintro _ k0
 replace k0:Mv=some r:=k0
 unfold Mv at k0
 exact Rg [.a] (sl 19 [(4,vI (-1:Int))] []) (aN)<|hR<|bQ _ (congrArg vI (sI k0))
def Jh:Option ((List (List UInt8))):=
 some ([CL,Dg,DN,EN,EO,F2]:List (List UInt8))
def UT (r:(List (List UInt8))):Prop:=Af Tryz.prog I0 198 [] (· =vL eS r)
theorem OP {r:(List (List UInt8))} (h:Jh=some r):UT r:=by
 refine Af.bo Ae Tryz.func198 rfl Tryz.ntmps198 [.tmp 0] fun _ _ _ _=>?_
 unfold Jh at h
 exact Rg [.a] (sl 2 [] []) (aN)<|Rg [.a,.a] (sl 2 [(0,vO [1])] [Bp [1] 9 1 eS ([CL,Dg,DN,EN,EO,F2]:List (List UInt8))]) (aN)<|hR<|bE (vO [1]) (vL eS ([CL,Dg,DN,EN,EO,F2]:List (List UInt8))) (congrArg (vL eS) (sI h))
def K4 (a0:Ac):Option (Bool):=
 (some (if(decide (a0.Kind<0))=true then true else decide (3<a0.Kind))).bind fun b1=>
 (some (if b1=true then true else decide (a0.N<0))).bind fun b2=>
 (some (if b2=true then true else decide (1000000<a0.N))).bind fun b3=>
 (if b3=true then
  some false
 else
  (some (if(a0.Kind != 0)=true then true else a0.N==0)).bind fun b5=>
  some b5)
def ck (a0:Ac) (r:Bool):Prop:=Af Tryz.prog I0 152 [vA CK a0] (· =vB r)
theorem Pr {a0:Ac} {r:Bool} (h:K4 a0=some r):ck a0 r:=by
 refine Af.bo Ae Tryz.func152 rfl Tryz.ntmps152 [.tmp 2] fun _ _ _ _=>?_
 unfold K4 at h
 refine Rg [.a,.a] (sl 29 [(1,vP [1] (0))] [bx [1] (CK a0)]) (aN)<|hS ?_
 obtain⟨b1,i0,b2,j0,b3,k0,h⟩:=I8 h
 refine Gg [.a,.a,.a,.a,.a,.a,.a,(.v (vB b1)),.a,.a,.a,.a,(.v (vB b2)),.a,.a,.a,.a,(.v (vB b3))] (u [] [(20,vB b3)]) (aG ((decide (a0.Kind<0))==false)<|aG ((decide (a0.Kind<0))==false)<|aF (decide (a0.Kind<0))<|aB i0<|aG (b1==false)<|aG (b1==false)<|aF b1<|aB j0<|aG (b2==false)<|aG (b2==false)<|aF b2<|aB k0<|aN)<|iC h (fun h=>?_) (fun h=>?_)
 ·exact Rg [.a] (sl 29 [(2,vB false)] []) (aN)<|hR<|Tr<|bQ _ (kB h)
 refine hK<|Tn ?_
 obtain⟨b5,m0,h⟩:=bS h
 exact Rg [.a,.a,.a,.a,.a,.a,.a,(.v (vB b5)),.a] (sl 29 [(2,vB b5)] []) (aG ((a0.Kind != 0)==false)<|aG ((a0.Kind != 0)==false)<|aF (a0.Kind != 0)<|aB m0<|aN)<|hR<|bQ _ (kB h)
def Fz (b1_1:Bq):Option (Bq):=
 some b1_1
def Ir (a0:Bq) (vt24_10:Bool):Option (Bq):=
 (if vt24_10=true then
  Fz ({{{a0 with Kind:=(0:Int)}with N:=(0:Int)}with M:=(0:Int)})
 else
  Fz ({a0 with Kind:=(0:Int)}))
def J0 (a0:Bq) (vt16_6:Bool):Option (Bq):=
 (if vt16_6=true then
  Fz ({{a0 with Kind:=(0:Int)}with Sub:=([]:List UInt8)})
 else
  (if(a0.Kind==11)=true then
   Fz ({{a0 with Kind:=(0:Int)}with Filter:=(⟨0,0,0,0,0,0,0,[],0,0,(⟨0,0⟩:Ac),(⟨0,0⟩:Ac),(⟨0,0⟩:Ac)⟩:Ag)})
  else
   (if(a0.Kind==12)=true then
    Ir a0 (a0.Kind==12)
   else
    Ir a0 (a0.Kind==13))))
def EG (a0:Bq) (vt8_3:Bool):Option (Bq):=
 (if vt8_3=true then
  Fz ({{a0 with Kind:=(0:Int)}with N:=(0:Int)})
 else
  (if(a0.Kind==4)=true then
   J0 a0 (a0.Kind==4)
  else
   J0 a0 (a0.Kind==5)))
def SV (a0:Bq):Option (Bq):=
 (if(a0.Kind==2)=true then
  EG a0 (a0.Kind==2)
 else
  (if(a0.Kind==3)=true then
   EG a0 (a0.Kind==3)
  else
   (if(a0.Kind==6)=true then
    EG a0 (a0.Kind==6)
   else
    (if(a0.Kind==7)=true then
     EG a0 (a0.Kind==7)
    else
     (if(a0.Kind==8)=true then
      EG a0 (a0.Kind==8)
     else
      EG a0 (a0.Kind==9))))))
def fq (a0:Bq) (r:Bq):Prop:=Af Tryz.prog I0 162 [vA Ao a0] (· =vA Ao r)
theorem cm {a0:Bq} {r:Bq} (h:SV a0=some r):fq a0 r:=by
 refine Af.bo Ae Tryz.func162 rfl Tryz.ntmps162 [.cell 2 107] fun _ _ _ _=>?_
 unfold SV at h
 refine Rg [.a,.a] (sl 30 [(1,vP [1] (0)),(2,vP [2] (0))] [bx [2] [Aa 0,Aa 0,Aa 0,.str ([]),Aa 0,Aa 0,Aa 0,Aa 0,Aa 0,Aa 0,Aa 0,.str ([]),Aa 0,Aa 0,Aa 0,Aa 0,Aa 0,Aa 0,Aa 0,Aa 0],bx [1] (Ao a0)]) (aN)<|Gg (nA 3) (u [] [(3,vI a0.Kind)]) (aN)<|Gg [.a,.a] (uo [] [] [.k 0,.e (bx [1] (Ao ({a0 with Kind:=(0:Int)})))]) (aN)<|Gj (X:=Bq) (fun v=>(uo [3] [] [.k 0,.e (bx [1] (Ao v))])) (fun v=>Fz v=some r) ?_ ?_
 ·refine Gg [.a] (u [3] [(7,vI a0.Kind)]) (aN)<|hB<|Gj (X:=Bool) (fun v=>(u [] [(8,vB v)])) (fun v=>EG a0 v=some r) ?_ ?_
  ·refine Gg [.a,.a] (u [] [(8,vB (a0.Kind==2))]) (aN)<|iC h (fun h=>?_) (fun h=>?_)
   ·refine hK<|Tn ⟨(a0.Kind==2),h,wT⟩
   refine Gg [.a,.a] (u [] [(8,vB (a0.Kind==3))]) (aN)<|iC h (fun h=>?_) (fun h=>?_)
   ·refine hK<|Tn ⟨(a0.Kind==3),h,wT⟩
   refine Gg [.a,.a] (u [] [(8,vB (a0.Kind==6))]) (aN)<|iC h (fun h=>?_) (fun h=>?_)
   ·refine hK<|Tn ⟨(a0.Kind==6),h,wT⟩
   refine Gg [.a,.a] (u [] [(8,vB (a0.Kind==7))]) (aN)<|iC h (fun h=>?_) (fun h=>?_)
   ·refine hK<|Tn ⟨(a0.Kind==7),h,wT⟩
   refine Rg [.a,.a] (sl 30 [(1,vP [1] (0)),(2,vP [2] (0)),(7,vI a0.Kind),(8,vB (a0.Kind==8))] [bx [2] [Aa 0,Aa 0,Aa 0,.str ([]),Aa 0,Aa 0,Aa 0,Aa 0,Aa 0,Aa 0,Aa 0,.str ([]),Aa 0,Aa 0,Aa 0,Aa 0,Aa 0,Aa 0,Aa 0,Aa 0],bx [1] (Ao ({a0 with Kind:=(0:Int)}))]) (aN)<|iC h (fun h=>?_) (fun h=>?_)
   ·refine hK<|Tn ⟨(a0.Kind==8),h,wT⟩
   refine Ge [.a,.a] (u [] [(8,vB (a0.Kind==9)),(14,vB (a0.Kind==9))]) (aN)<|Tn ⟨(a0.Kind==9),h,wT⟩
  rintro q0 j0
  replace j0:EG a0 q0=some r:=j0
  unfold EG at j0
  refine iC j0 (fun j0=>?_) (fun j0=>?_)
  ·refine Ge [.a,.a] (uo [] [(15,vP [1] (1))] [.k 0,.e (bx [1] (Ao ({{a0 with Kind:=(0:Int)}with N:=(0:Int)})))]) (aN)<|qN<|Tn ⟨({{a0 with Kind:=(0:Int)}with N:=(0:Int)}),j0,wT⟩
  refine Gj (X:=Bool) (fun v=>(u [8] [(16,vB v)])) (fun v=>J0 a0 v=some r) ?_ ?_
  ·refine Gg [.a,.a] (u [8] [(16,vB (a0.Kind==4))]) (aN)<|iC j0 (fun j0=>?_) (fun j0=>?_)
   ·refine hK<|Tn ⟨(a0.Kind==4),j0,wT⟩
   refine Ge [.a,.a] (u [] [(16,vB (a0.Kind==5)),(18,vB (a0.Kind==5))]) (aN)<|Tn ⟨(a0.Kind==5),j0,wT⟩
  rintro p0 i0
  replace i0:J0 a0 p0=some r:=i0
  unfold J0 at i0
  refine iC i0 (fun i0=>?_) (fun i0=>?_)
  ·refine Ge [.a,.a] (uo [] [(19,vP [1] (3))] [.k 0,.e (bx [1] (Ao ({{a0 with Kind:=(0:Int)}with Sub:=([]:List UInt8)})))]) (aN)<|qN<|Tn ⟨({{a0 with Kind:=(0:Int)}with Sub:=([]:List UInt8)}),i0,wT⟩
  refine Gg [.a,.a] (u [16] [(20,vB (a0.Kind==11))]) (aN)<|iC i0 (fun i0=>?_) (fun i0=>?_)
  ·refine Ge (nA 3) (uo [] [(22,.agg [Aa 0,Aa 0,Aa 0,Aa 0,Aa 0,Aa 0,Aa 0,.str ([]),Aa 0,Aa 0,Aa 0,Aa 0,Aa 0,Aa 0,Aa 0,Aa 0]),(23,vP [1] (4))] [.k 0,.e (bx [1] (Ao ({{a0 with Kind:=(0:Int)}with Filter:=(⟨0,0,0,0,0,0,0,[],0,0,(⟨0,0⟩:Ac),(⟨0,0⟩:Ac),(⟨0,0⟩:Ac)⟩:Ag)})))]) (aC (And.intro trivial OJ)<|aN)<|qN<|Tn ⟨({{a0 with Kind:=(0:Int)}with Filter:=(⟨0,0,0,0,0,0,0,[],0,0,(⟨0,0⟩:Ac),(⟨0,0⟩:Ac),(⟨0,0⟩:Ac)⟩:Ag)}),i0,wT⟩
  refine Gj (X:=Bool) (fun v=>(u [7,20] [(24,vB v)])) (fun v=>Ir a0 v=some r) ?_ ?_
  ·refine Gg [.a,.a] (u [20] [(24,vB (a0.Kind==12))]) (aN)<|iC i0 (fun i0=>?_) (fun i0=>?_)
   ·refine hK<|Tn ⟨(a0.Kind==12),i0,wT⟩
   refine Re [.a,.a] (sl 30 [(1,vP [1] (0)),(2,vP [2] (0)),(7,vI a0.Kind),(24,vB (a0.Kind==13)),(26,vB (a0.Kind==13))] [bx [2] [Aa 0,Aa 0,Aa 0,.str ([]),Aa 0,Aa 0,Aa 0,Aa 0,Aa 0,Aa 0,Aa 0,.str ([]),Aa 0,Aa 0,Aa 0,Aa 0,Aa 0,Aa 0,Aa 0,Aa 0],bx [1] (Ao ({a0 with Kind:=(0:Int)}))]) (aN)<|Tn ⟨(a0.Kind==13),i0,wT⟩
  rintro o0 k0
  replace k0:Ir a0 o0=some r:=k0
  unfold Ir at k0
  refine iC k0 (fun k0=>?_) (fun k0=>?_)
  ·refine Rg [.a,.a] (sl 30 [(1,vP [1] (0)),(2,vP [2] (0))] [bx [2] [Aa 0,Aa 0,Aa 0,.str ([]),Aa 0,Aa 0,Aa 0,Aa 0,Aa 0,Aa 0,Aa 0,.str ([]),Aa 0,Aa 0,Aa 0,Aa 0,Aa 0,Aa 0,Aa 0,Aa 0],bx [1] (Ao ({{a0 with Kind:=(0:Int)}with N:=(0:Int)}))]) (aN)<|Ge [.a,.a] (uo [] [(28,vP [1] (2))] [.k 0,.e (bx [1] (Ao ({{{a0 with Kind:=(0:Int)}with N:=(0:Int)}with M:=(0:Int)})))]) (aN)<|qN<|Tn ⟨({{{a0 with Kind:=(0:Int)}with N:=(0:Int)}with M:=(0:Int)}),k0,wT⟩
  refine hK<|qN<|Tn ⟨({a0 with Kind:=(0:Int)}),k0,wT⟩
 rintro m0 n0
 replace n0:Fz m0=some r:=n0
 unfold Fz at n0
 exact Gg [.a,.a] (uo [1] [] [.e (bx [2] (Ao m0))]) (aN)<|hR<|bE (vA Ao m0) (.agg (Ao m0)) (congrArg (vA Ao) (sI n0))
def OQ (a0:Int):Option (Bool):=
 (some (if(decide (1≤a0))=true then decide (a0≤63)else false)).bind fun b1=>
 (some (if b1=true then(PS .i64 a0 (6:Int))==(0:Int)else false)).bind fun b2=>
 some b2
def cn (a0:Int) (r:Bool):Prop:=Af Tryz.prog I0 163 [vI a0] (· =vB r)
theorem ZG {a0:Int} {r:Bool} (h:OQ a0=some r):cn a0 r:=by
 refine Af.bo Ae Tryz.func163 rfl Tryz.ntmps163 [.tmp 2] fun _ _ _ _=>?_
 unfold OQ at h
 refine Gg [.a] (u [] []) (aN) ?_
 obtain⟨b1,i0,b2,j0,h⟩:=Ex h
 exact Rg [.a,.a,.a,.a,.a,(.v (vB b1)),.a,.a,.a,.a,(.v (vB b2)),.a] (sl 14 [(2,vB b2)] []) (aG ((decide (1≤a0))==true)<|aT (decide (1≤a0))<|aB i0<|aG (b1==true)<|aG (b1==true)<|aT b1<|aB j0<|aN)<|hR<|bQ _ (kB h)
def Ps (mask_t0_1:Int):Option (Bool):=
 some ((Int.tmod mask_t0_1 (2:Int))==(1:Int))
def RZ (a1:Int) (mask_t0_5:Int) (k_t5_6:Int):Option ((Int×Int)⊕(Int)):=
 (if(decide (k_t5_6<a1))=true then
  some (.inl ((Ab (Int.tdiv mask_t0_5 (2:Int))),(Ab (k_t5_6+1))))
 else
  some (.inr mask_t0_5))
def ZH (a0:Int) (a1:Int):Option (Bool):=
 (iter (fun(v:Int×Int)=>RZ a1 v.1 v.2) FU (a0,(0:Int))).bind (fun o0=>Ps o0)
def jB (a0:Int) (a1:Int) (r:Bool):Prop:=Af Tryz.prog I0 237 [vI a0,vI a1] (· =vB r)
theorem ft {a0:Int} {a1:Int} {r:Bool} (h:ZH a0 a1=some r):jB a0 a1 r:=by
 refine Af.bo Ae Tryz.func237 rfl Tryz.ntmps237 [.tmp 4] fun _ _ _ _=>?_
 unfold ZH at h
 refine Gg [.a] (u [] []) (aN)<|Sj (X:=Int) (fun v=>(sl 16 [(0,vI v)] [])) (fun v=>Ps v=some r) ?_ ?_
 ·refine Gg [.a] (u [] [(5,vI 0)]) (aN)<|hB ?_
  obtain⟨t0,o0,h⟩:=bS h
  refine Gi (fun(v:Int×Int)=>(u [] [(0,vI v.1),(5,vI v.2)])) o0 (wT) ?_
  rintro⟨i0,j0⟩ q0 k0 p0
  replace k0:RZ a1 i0 j0=some q0:=k0
  unfold RZ at k0
  refine hS<|Gg (nA 3) (u [] [(8,vB (decide (j0<a1)))]) (aN)<|iC k0 (fun k0=>?_) (fun k0=>?_)
  ·refine hK<|Tn<|hS<|hB<|Ge (nA 3) (u [] [(0,vI (Ab (Int.tdiv i0 (2:Int)))),(11,vI i0),(12,vI (Ab (Int.tdiv i0 (2:Int))))]) (aC (show (2:Int) ≠ 0 from(by decide))<|aN)<|qN<|Tn<|Ge (nA 3) (u [] [(5,vI (Ab (j0+1))),(9,vI j0),(10,vI (Ab (j0+1)))]) (aN)<|Tn ⟨((Ab (Int.tdiv i0 (2:Int))),(Ab (j0+1))),(sI k0).symm,wT⟩
  refine hE<|Te ?_
  obtain rfl:=p0 _ (sI k0).symm
  refine Te<|qX<|Tn ⟨i0,h,wT⟩
 rintro m0 n0
 replace n0:Ps m0=some r:=n0
 unfold Ps at n0
 exact Rg (nA 4) (sl 16 [(4,vB ((Int.tmod m0 (2:Int))==(1:Int)))] []) (aC (show (2:Int) ≠ 0 from(by decide))<|aN)<|hR<|bQ _ (kB n0)
def WD (a0:Int):Option (Bool):=
 (some (if(decide (0≤a0))=true then decide (a0≤31)else false)).bind fun b1=>
 some b1
def lH (a0:Int) (r:Bool):Prop:=Af Tryz.prog I0 208 [vI a0] (· =vB r)
theorem jC {a0:Int} {r:Bool} (h:WD a0=some r):lH a0 r:=by
 refine Af.bo Ae Tryz.func208 rfl Tryz.ntmps208 [.tmp 2] fun _ _ _ _=>?_
 unfold WD at h
 refine Gg [.a] (u [] []) (aN) ?_
 obtain⟨b1,i0,h⟩:=bS h
 exact Rg [.a,.a,.a,.a,.a,(.v (vB b1)),.a] (sl 9 [(2,vB b1)] []) (aG ((decide (0≤a0))==true)<|aT (decide (0≤a0))<|aB i0<|aN)<|hR<|bQ _ (kB h)
def OR (a0:Int):Option ((List UInt8)):=
 (if(a0==0)=true then
  some YB
 else
  (if(a0==1)=true then
   some Wl
  else
   (if(a0==2)=true then
    some hH
   else
    (if(a0==3)=true then
     some bL
    else
     (if(a0==4)=true then
      some Uw
     else
      some ([]:List UInt8))))))
def fu (a0:Int) (r:(List UInt8)):Prop:=Af Tryz.prog I0 209 [vI a0] (· =vS r)
theorem Qs {a0:Int} {r:(List UInt8)} (h:OR a0=some r):fu a0 r:=by
 refine Af.bo Ae Tryz.func209 rfl Tryz.ntmps209 [.tmp 2] fun _ _ _ _=>?_
 unfold OR at h
 refine Gg [.a] (u [] []) (aN)<|hS<|Rg [.a] (sl 14 [(3,vI a0)] []) (aN)<|hB<|Gg [.a,.a] (u [] [(4,vB (a0==0))]) (aN)<|iC h (fun h=>?_) (fun h=>?_)
 ·exact Rg [.a] (sl 14 [(2,vS YB)] []) (aN)<|hR<|qR<|Tr<|bQ _ (congrArg vS (sI h))
 refine Gg [.a,.a] (u [4] [(6,vB (a0==1))]) (aN)<|iC h (fun h=>?_) (fun h=>?_)
 ·exact Rg [.a] (sl 14 [(2,vS Wl)] []) (aN)<|hR<|qR<|Tr<|bQ _ (congrArg vS (sI h))
 refine Gg [.a,.a] (u [6] [(8,vB (a0==2))]) (aN)<|iC h (fun h=>?_) (fun h=>?_)
 ·exact Rg [.a] (sl 14 [(2,vS hH)] []) (aN)<|hR<|qR<|Tr<|bQ _ (congrArg vS (sI h))
 refine Gg [.a,.a] (u [8] [(10,vB (a0==3))]) (aN)<|iC h (fun h=>?_) (fun h=>?_)
 ·exact Rg [.a] (sl 14 [(2,vS bL)] []) (aN)<|hR<|qR<|Tr<|bQ _ (congrArg vS (sI h))
 refine Rg [.a,.a] (sl 14 [(12,vB (a0==4))] []) (aN)<|iC h (fun h=>?_) (fun h=>?_)
 ·exact Rg [.a] (sl 14 [(2,vS Uw)] []) (aN)<|hR<|qR<|Tr<|bQ _ (congrArg vS (sI h))
 exact hK<|qN<|Tn<|Rg [.a] (sl 14 [(2,vS ([]:List UInt8))] []) (aN)<|hR<|bQ _ (congrArg vS (sI h))
def WE (a0:Int):Option (Bool):=
 (some (if(decide (0≤a0))=true then decide (a0≤131071)else false)).bind fun b1=>
 some b1
def lI (a0:Int) (r:Bool):Prop:=Af Tryz.prog I0 210 [vI a0] (· =vB r)
theorem jD {a0:Int} {r:Bool} (h:WE a0=some r):lI a0 r:=by
 refine Af.bo Ae Tryz.func210 rfl Tryz.ntmps210 [.tmp 2] fun _ _ _ _=>?_
 unfold WE at h
 refine Gg [.a] (u [] []) (aN) ?_
 obtain⟨b1,i0,h⟩:=bS h
 exact Rg [.a,.a,.a,.a,.a,(.v (vB b1)),.a] (sl 9 [(2,vB b1)] []) (aG ((decide (0≤a0))==true)<|aT (decide (0≤a0))<|aB i0<|aN)<|hR<|bQ _ (kB h)
def TJ:Option ((List (List UInt8))):=
 some ([GM,Ia,Ib,Ey,Ft,K0,Kj,GN,Ez,GO,EA,GP,GQ,Fu,Oa,EB,L6]:List (List UInt8))
def cp (r:(List (List UInt8))):Prop:=Af Tryz.prog I0 238 [] (· =vL eS r)
theorem ZI {r:(List (List UInt8))} (h:TJ=some r):cp r:=by
 refine Af.bo Ae Tryz.func238 rfl Tryz.ntmps238 [.tmp 0] fun _ _ _ _=>?_
 unfold TJ at h
 exact Rg [.a] (sl 2 [] []) (aN)<|Rg [.a,.a] (sl 2 [(0,vO [1])] [Bp [1] 9 1 eS ([GM,Ia,Ib,Ey,Ft,K0,Kj,GN,Ez,GO,EA,GP,GQ,Fu,Oa,EB,L6]:List (List UInt8))]) (aN)<|hR<|bE (vO [1]) (vL eS ([GM,Ia,Ib,Ey,Ft,K0,Kj,GN,Ez,GO,EA,GP,GQ,Fu,Oa,EB,L6]:List (List UInt8))) (congrArg (vL eS) (sI h))
def Of:Option ((List (List UInt8))):=
 some ([([]:List UInt8),JX,F3,EP,Ic,Ie]:List (List UInt8))
def UU (r:(List (List UInt8))):Prop:=Af Tryz.prog I0 212 [] (· =vL eS r)
theorem TK {r:(List (List UInt8))} (h:Of=some r):UU r:=by
 refine Af.bo Ae Tryz.func212 rfl Tryz.ntmps212 [.tmp 0] fun _ _ _ _=>?_
 unfold Of at h
 exact Rg [.a] (sl 2 [] []) (aN)<|Rg [.a,.a] (sl 2 [(0,vO [1])] [Bp [1] 9 1 eS ([([]:List UInt8),JX,F3,EP,Ic,Ie]:List (List UInt8))]) (aN)<|hR<|bE (vO [1]) (vL eS ([([]:List UInt8),JX,F3,EP,Ic,Ie]:List (List UInt8))) (congrArg (vL eS) (sI h))
def Pt:Option ((List (List UInt8))):=
 some ([([]:List UInt8),Hp,FN]:List (List UInt8))
def WF (r:(List (List UInt8))):Prop:=Af Tryz.prog I0 213 [] (· =vL eS r)
theorem UV {r:(List (List UInt8))} (h:Pt=some r):WF r:=by
 refine Af.bo Ae Tryz.func213 rfl Tryz.ntmps213 [.tmp 0] fun _ _ _ _=>?_
 unfold Pt at h
 exact Rg [.a] (sl 2 [] []) (aN)<|Rg [.a,.a] (sl 2 [(0,vO [1])] [Bp [1] 9 1 eS ([([]:List UInt8),Hp,FN]:List (List UInt8))]) (aN)<|hR<|bE (vO [1]) (vL eS ([([]:List UInt8),Hp,FN]:List (List UInt8))) (congrArg (vL eS) (sI h))
def Og:Option ((List (List UInt8))):=
 some ([([]:List UInt8),Ki,If]:List (List UInt8))
def UW (r:(List (List UInt8))):Prop:=Af Tryz.prog I0 214 [] (· =vL eS r)
theorem TL {r:(List (List UInt8))} (h:Og=some r):UW r:=by
 refine Af.bo Ae Tryz.func214 rfl Tryz.ntmps214 [.tmp 0] fun _ _ _ _=>?_
 unfold Og at h
 exact Rg [.a] (sl 2 [] []) (aN)<|Rg [.a,.a] (sl 2 [(0,vO [1])] [Bp [1] 9 1 eS ([([]:List UInt8),Ki,If]:List (List UInt8))]) (aN)<|hR<|bE (vO [1]) (vL eS ([([]:List UInt8),Ki,If]:List (List UInt8))) (congrArg (vL eS) (sI h))
def Pu:Option ((List (List UInt8))):=
 some ([([]:List UInt8),E2,Dt]:List (List UInt8))
def WG (r:(List (List UInt8))):Prop:=Af Tryz.prog I0 215 [] (· =vL eS r)
theorem UX {r:(List (List UInt8))} (h:Pu=some r):WG r:=by
 refine Af.bo Ae Tryz.func215 rfl Tryz.ntmps215 [.tmp 0] fun _ _ _ _=>?_
 unfold Pu at h
 exact Rg [.a] (sl 2 [] []) (aN)<|Rg [.a,.a] (sl 2 [(0,vO [1])] [Bp [1] 9 1 eS ([([]:List UInt8),E2,Dt]:List (List UInt8))]) (aN)<|hR<|bE (vO [1]) (vL eS ([([]:List UInt8),E2,Dt]:List (List UInt8))) (congrArg (vL eS) (sI h))
def Pv (mask_t0_1:Int):Option (Bool):=
 some ((Int.tmod mask_t0_1 (2:Int))==(1:Int))
def Pw (a1:Int) (mask_t0_5:Int) (k_t5_6:Int):Option ((Int×Int)⊕(Int)):=
 (if(decide (k_t5_6<a1))=true then
  some (.inl ((Ab (Int.tdiv mask_t0_5 (2:Int))),(Ab (k_t5_6+1))))
 else
  some (.inr mask_t0_5))
def Mw (a0:Int) (a1:Int):Option (Bool):=
 (iter (fun(v:Int×Int)=>Pw a1 v.1 v.2) FU (a0,(0:Int))).bind (fun o0=>Pv o0)
def jE (a0:Int) (a1:Int) (r:Bool):Prop:=Af Tryz.prog I0 217 [vI a0,vI a1] (· =vB r)
theorem Nt {a0:Int} {a1:Int} {r:Bool} (h:Mw a0 a1=some r):jE a0 a1 r:=by
 refine Af.bo Ae Tryz.func217 rfl Tryz.ntmps217 [.tmp 4] fun _ _ _ _=>?_
 unfold Mw at h
 refine Gg [.a] (u [] []) (aN)<|Sj (X:=Int) (fun v=>(sl 16 [(0,vI v)] [])) (fun v=>Pv v=some r) ?_ ?_
 ·refine Gg [.a] (u [] [(5,vI 0)]) (aN)<|hB ?_
  obtain⟨t0,o0,h⟩:=bS h
  refine Gi (fun(v:Int×Int)=>(u [] [(0,vI v.1),(5,vI v.2)])) o0 (wT) ?_
  rintro⟨i0,j0⟩ q0 k0 p0
  replace k0:Pw a1 i0 j0=some q0:=k0
  unfold Pw at k0
  refine hS<|Gg (nA 3) (u [] [(8,vB (decide (j0<a1)))]) (aN)<|iC k0 (fun k0=>?_) (fun k0=>?_)
  ·refine hK<|Tn<|hS<|hB<|Ge (nA 3) (u [] [(0,vI (Ab (Int.tdiv i0 (2:Int)))),(11,vI i0),(12,vI (Ab (Int.tdiv i0 (2:Int))))]) (aC (show (2:Int) ≠ 0 from(by decide))<|aN)<|qN<|Tn<|Ge (nA 3) (u [] [(5,vI (Ab (j0+1))),(9,vI j0),(10,vI (Ab (j0+1)))]) (aN)<|Tn ⟨((Ab (Int.tdiv i0 (2:Int))),(Ab (j0+1))),(sI k0).symm,wT⟩
  refine hE<|Te ?_
  obtain rfl:=p0 _ (sI k0).symm
  refine Te<|qX<|Tn ⟨i0,h,wT⟩
 rintro m0 n0
 replace n0:Pv m0=some r:=n0
 unfold Pv at n0
 exact Rg (nA 4) (sl 16 [(4,vB ((Int.tmod m0 (2:Int))==(1:Int)))] []) (aC (show (2:Int) ≠ 0 from(by decide))<|aN)<|hR<|bQ _ (kB n0)
def TM:Option ((List (List UInt8))):=
 some ([([]:List UInt8),JY,JZ,NR]:List (List UInt8))
def cq (r:(List (List UInt8))):Prop:=Af Tryz.prog I0 239 [] (· =vL eS r)
theorem ZJ {r:(List (List UInt8))} (h:TM=some r):cq r:=by
 refine Af.bo Ae Tryz.func239 rfl Tryz.ntmps239 [.tmp 0] fun _ _ _ _=>?_
 unfold TM at h
 exact Rg [.a] (sl 2 [] []) (aN)<|Rg [.a,.a] (sl 2 [(0,vO [1])] [Bp [1] 9 1 eS ([([]:List UInt8),JY,JZ,NR]:List (List UInt8))]) (aN)<|hR<|bE (vO [1]) (vL eS ([([]:List UInt8),JY,JZ,NR]:List (List UInt8))) (congrArg (vL eS) (sI h))
def Lr (s_t3_2:List UInt8):Option ((List UInt8)):=
 some s_t3_2
def Oh (u_t0_6:Int) (s_t3_7:List UInt8):Option ((Int×(List UInt8))⊕((List UInt8))):=
 (if(decide (0<u_t0_6))=true then
  (need (∀ n∈([IntKind.u8.wrap (IntKind.u64.wrap ((48:Int)+(Int.tmod u_t0_6 (10:Int))))]:List (Int)),0≤n∧n<256)).bind fun u11=>
  (cat (M4 ([IntKind.u8.wrap (IntKind.u64.wrap ((48:Int)+(Int.tmod u_t0_6 (10:Int))))]:List (Int))) s_t3_7).bind fun s12=>
  some (.inl ((IntKind.u64.wrap (Int.tdiv u_t0_6 (10:Int))),s12))
 else
  some (.inr s_t3_7))
def Px (a0:Int):Option ((List UInt8)):=
 (need (∀ n∈([IntKind.u8.wrap (IntKind.u64.wrap ((48:Int)+(Int.tmod a0 (10:Int))))]:List (Int)),0≤n∧n<256)).bind fun u1=>
 (iter (fun(v:Int×(List UInt8))=>Oh v.1 v.2) FU ((IntKind.u64.wrap (Int.tdiv a0 (10:Int))),(M4 ([IntKind.u8.wrap (IntKind.u64.wrap ((48:Int)+(Int.tmod a0 (10:Int))))]:List (Int))))).bind (fun o0=>Lr o0)
def ZK (a0:Int) (r:(List UInt8)):Prop:=Af Tryz.prog I0 221 [.c (.int .u64 a0)] (· =vS r)
theorem Rv {a0:Int} {r:(List UInt8)} (h:Px a0=some r):ZK a0 r:=by
 refine Af.bo Ae Tryz.func221 rfl Tryz.ntmps221 [.tmp 2] fun _ _ _ _=>?_
 unfold Px at h
 refine Gg [.a] (u [] []) (aN) ?_
 obtain⟨u1,y0,h⟩:=bS h
 refine Gg [.a,.a,.a,.a,.a,(.v (vS (M4 ([IntKind.u8.wrap (IntKind.u64.wrap ((48:Int)+(Int.tmod a0 (10:Int))))]:List (Int))))),.a] (u [] [(3,vS (M4 ([IntKind.u8.wrap (IntKind.u64.wrap ((48:Int)+(Int.tmod a0 (10:Int))))]:List (Int))))]) (aC (show (10:Int) ≠ 0 from(by decide))<|aC (show (LC Tryz.prog 200=true∧LA Tryz.prog 9=true)∧1=1∧NJ (([IntKind.u8.wrap (IntKind.u64.wrap ((48:Int)+(Int.tmod a0 (10:Int))))]:List (Int)).flatMap (eI .u8))from⟨⟨by kernel_rfl,by kernel_rfl⟩,rfl,Pe (FZ y0)⟩)<|aC (congrArg (fun z=>V.c (.str z)) (P8 ([IntKind.u8.wrap (IntKind.u64.wrap ((48:Int)+(Int.tmod a0 (10:Int))))]:List (Int))))<|aN)<|Sj (X:=(List UInt8)) (fun v=>(sl 25 [(3,vS v)] [])) (fun v=>Lr v=some r) ?_ ?_
 ·refine Gg (nA 3) (u [] [(0,.c (.int .u64 (IntKind.u64.wrap (Int.tdiv a0 (10:Int)))))]) (aC (show (10:Int) ≠ 0 from(by decide))<|aN)<|hB ?_
  obtain⟨d1,q0,h⟩:=bS h
  refine It (fun(v:Int×(List UInt8))=>(sl 25 [(0,.c (.int .u64 v.1)),(3,vS v.2)] [])) q0 (wT) ?_
  rintro⟨i0,k0⟩ z0 j0 t0
  replace j0:Oh i0 k0=some z0:=j0
  unfold Oh at j0
  refine hS<|Gg [.a,.a] (u [] [(13,vB (decide (0<i0)))]) (aN)<|iC j0 (fun j0=>?_) (fun j0=>?_)
  ·refine hK<|Tn<|hS<|hB ?_
   obtain⟨i1,x0,o0,p0,j0⟩:=Ex j0
   refine Ge [.a,.a,.a,.a,.a,(.v (vS (M4 ([IntKind.u8.wrap (IntKind.u64.wrap ((48:Int)+(Int.tmod i0 (10:Int))))]:List (Int))))),.a,(.v (vS o0)),.a] (uo [] [(3,vS o0),(16,.c (.int .u64 i0)),(17,.c (.int .u64 (Int.tmod i0 (10:Int)))),(18,.c (.int .u64 (IntKind.u64.wrap ((48:Int)+(Int.tmod i0 (10:Int)))))),(19,.c (.int .u8 (IntKind.u8.wrap (IntKind.u64.wrap ((48:Int)+(Int.tmod i0 (10:Int))))))),(20,vO [20]),(21,vS (M4 ([IntKind.u8.wrap (IntKind.u64.wrap ((48:Int)+(Int.tmod i0 (10:Int))))]:List (Int)))),(22,vS k0),(23,vS o0)] [.e (Bp [20] 5 1 (eI .u8) ([IntKind.u8.wrap (IntKind.u64.wrap ((48:Int)+(Int.tmod i0 (10:Int))))]:List (Int)))]) (aC (show (10:Int) ≠ 0 from(by decide))<|aC (show (LC Tryz.prog 200=true∧LA Tryz.prog 9=true)∧1=1∧NJ (([IntKind.u8.wrap (IntKind.u64.wrap ((48:Int)+(Int.tmod i0 (10:Int))))]:List (Int)).flatMap (eI .u8))from⟨⟨by kernel_rfl,by kernel_rfl⟩,rfl,Pe (FZ x0)⟩)<|aC (congrArg (fun z=>V.c (.str z)) (P8 ([IntKind.u8.wrap (IntKind.u64.wrap ((48:Int)+(Int.tmod i0 (10:Int))))]:List (Int))))<|aC (By p0)<|aC (congrArg (fun z=>V.c (.str z)) (Bz p0).symm)<|aN)<|qN<|Tn<|Ge (nA 3) (u [] [(0,.c (.int .u64 (IntKind.u64.wrap (Int.tdiv i0 (10:Int))))),(14,.c (.int .u64 i0)),(15,.c (.int .u64 (IntKind.u64.wrap (Int.tdiv i0 (10:Int)))))]) (aC (show (10:Int) ≠ 0 from(by decide))<|aN)<|Tn ⟨((IntKind.u64.wrap (Int.tdiv i0 (10:Int))),o0),(sI j0).symm,wT⟩
  refine hE<|Te ?_
  obtain rfl:=t0 _ (sI j0).symm
  refine Te<|qX<|Tn ⟨k0,h,wT⟩
 rintro m0 n0
 replace n0:Lr m0=some r:=n0
 unfold Lr at n0
 exact Rg [.a,.a] (sl 25 [(2,vS m0)] []) (aN)<|hR<|bQ _ (congrArg vS (sI n0))
def LP (s_t5_1:List UInt8):Option ((List UInt8)):=
 some s_t5_1
def GU (a0:List (List UInt8)) (i_t6_6:Int) (s_t5_10:List UInt8):Option (((List UInt8)×Int)⊕((List UInt8))):=
 (idx a0 i_t6_6).bind fun e12=>
 (cat s_t5_10 e12).bind fun s13=>
 some (.inl (s13,(Ab (i_t6_6+1))))
def NX (a0:List (List UInt8)) (a1:List UInt8) (s_t5_5:List UInt8) (i_t6_6:Int):Option (((List UInt8)×Int)⊕((List UInt8))):=
 (if(decide (i_t6_6<(a0.length:Int)))=true then
  (if(decide (0<i_t6_6))=true then
   (cat s_t5_5 a1).bind fun s15=>
   GU a0 i_t6_6 s15
  else
   GU a0 i_t6_6 s_t5_5)
 else
  some (.inr s_t5_5))
def Qt (a0:List (List UInt8)) (a1:List UInt8):Option ((List UInt8)):=
 (iter (fun(v:(List UInt8)×Int)=>NX a0 a1 v.1 v.2) FU (([]:List UInt8),(0:Int))).bind (fun o0=>LP o0)
def fv (a0:List (List UInt8)) (a1:List UInt8) (r:(List UInt8)):Prop:=Af Tryz.prog I0 220 [vL eS a0,vS a1] (· =vS r)
theorem cr {a0:List (List UInt8)} {a1:List UInt8} {r:(List UInt8)} (h:Qt a0 a1=some r):fv a0 a1 r:=by
 refine Af.bo Ae Tryz.func220 rfl Tryz.ntmps220 [.tmp 4] fun _ _ _ _=>?_
 unfold Qt at h
 refine Gg [.a] (u [] []) (aN)<|Gg [.a] (u [] [(5,vS ([]:List UInt8))]) (aN)<|Sj (X:=(List UInt8)) (fun v=>(sl 25 [(5,vS v)] [])) (fun v=>LP v=some r) ?_ ?_
 ·refine Gg [.a] (u [] [(6,vI 0)]) (aN)<|hB ?_
  obtain⟨m1,j1,h⟩:=bS h
  refine Gi (fun(v:(List UInt8)×Int)=>(u [] [(5,vS v.1),(6,vI v.2)])) j1 (wT) ?_
  rintro⟨k0,i0⟩ i1 j0 k1
  replace j0:NX a0 a1 k0 i0=some i1:=j0
  unfold NX at j0
  refine hS<|Gg (nA 4) (u [] [(10,vB (decide (i0<(a0.length:Int))))]) (aN)<|iC j0 (fun j0=>?_) (fun j0=>?_)
  ·refine hK<|Tn<|hS<|hB<|Gj (X:=(List UInt8)) (fun v=>(u [10] [(5,vS v)])) (fun v=>GU a0 i0 v=some i1) ?_ ?_
   ·refine Gg [.a,.a] (u [10] [(14,vB (decide (0<i0)))]) (aN)<|iC j0 (fun j0=>?_) (fun j0=>?_)
    ·obtain⟨x0,d1,j0⟩:=bS j0
     refine Ge [.a,.a,(.v (vS x0)),.a] (u [] [(5,vS x0),(15,vS k0),(16,vS a1),(17,vS x0)]) (aC (By d1)<|aC (congrArg (fun z=>V.c (.str z)) (Bz d1).symm)<|aN)<|Tn ⟨x0,j0,wT⟩
    refine hK<|Tn ⟨k0,j0,wT⟩
   rintro n0 m0
   replace m0:GU a0 i0 n0=some i1:=m0
   unfold GU at m0
   obtain⟨p0,y0,t0,z0,m0⟩:=Ex m0
   refine Ge [.a,.a,.a,.a,(.v (vS p0)),(.v (vS t0)),.a] (u [] [(5,vS t0),(18,vS n0),(19,vL eS a0),(20,vI i0),(21,vX eS a0 ((i0).toNat *1)),(22,vS p0),(23,vS t0)]) (aC (AI y0)<|aC (DI y0 OB 0 1 false (vS p0))<|aC (Eq.refl (vS p0))<|aC (By z0)<|aC (congrArg (fun z=>V.c (.str z)) (Bz z0).symm)<|aN)<|qN<|Tn<|Ge (nA 3) (u [] [(6,vI (Ab (i0+1))),(11,vI i0),(12,vI (Ab (i0+1)))]) (aN)<|Tn ⟨(t0,(Ab (i0+1))),(sI m0).symm,wT⟩
  refine hE<|Te ?_
  obtain rfl:=k1 _ (sI j0).symm
  refine Te<|qX<|Tn ⟨k0,h,wT⟩
 rintro o0 q0
 replace q0:LP o0=some r:=q0
 unfold LP at q0
 exact Rg [.a,.a] (sl 25 [(4,vS o0)] []) (aN)<|hR<|bQ _ (congrArg vS (sI q0))
def OS:Option (Bool):=
 some true
def Fd (a0:AP) (i_t3_7:Int):Option ((Int)⊕(Unit⊕Unit)):=
 (if(decide (i_t3_7<5))=true then
  (idx a0.Color.l i_t3_7).bind fun e10=>
  (gd ((decide (e10<0))==false) (idx a0.Color.l i_t3_7)).bind fun e11=>
  (some (if(decide (e10<0))=true then true else decide (9<e11))).bind fun b12=>
  (if b12=true then
   some (.inr (.inr ()))
  else
   some (.inl (Ab (i_t3_7+1))))
 else
  some (.inr (.inl ())))
def TN (a0:AP):Option (Bool):=
 (some (if(decide (a0.Generic<0))=true then true else decide (99<a0.Generic))).bind fun b1=>
 (some (if b1=true then true else decide (a0.X<0))).bind fun b2=>
 (some (if b2=true then true else decide (2<a0.X))).bind fun b3=>
 (if b3=true then
  some false
 else
  (iter (fun(v:Int)=>Fd a0 v) FU (0:Int)).bind (Sum.elim (fun o0=>OS) (fun o1=>some false)))
def lJ (a0:AP) (r:Bool):Prop:=Af Tryz.prog I0 153 [vA Bu a0] (· =vB r)
theorem YD {a0:AP} {r:Bool} (h:TN a0=some r):lJ a0 r:=by
 refine Af.bo Ae Tryz.func153 rfl Tryz.ntmps153 [.tmp 2] fun _ _ _ _=>?_
 unfold TN at h
 refine Rg [.a,.a] (sl 38 [(1,vP [1] (0))] [bx [1] (Bu a0)]) (aN)<|hS ?_
 obtain⟨b1,z0,b2,d1,b3,i1,h⟩:=I8 h
 refine Gg [.a,.a,.a,.a,.a,.a,.a,(.v (vB b1)),.a,.a,.a,.a,(.v (vB b2)),.a,.a,.a,.a,(.v (vB b3))] (u [] [(21,vB b3)]) (aG ((decide (a0.Generic<0))==false)<|aG ((decide (a0.Generic<0))==false)<|aF (decide (a0.Generic<0))<|aB z0<|aG (b1==false)<|aG (b1==false)<|aF b1<|aB d1<|aG (b2==false)<|aG (b2==false)<|aF b2<|aB i1<|aN)<|iC h (fun h=>?_) (fun h=>?_)
 ·exact Rg [.a] (sl 38 [(2,vB false)] []) (aN)<|hR<|Tr<|bQ _ (kB h)
 refine hK<|Tn<|Sj (X:=Unit) (fun v=>(sl 38 [] [])) (fun v=>OS=some r) ?_ ?_
 ·refine Gg [.a] (u [21] [(3,vI 0)]) (aN)<|hB ?_
  obtain⟨k1,y0,h⟩:=bS h
  refine Gi (fun(v:Int)=>(u [] [(3,vI v)])) y0 (wT) ?_
  rintro j0 j1 i0 q0
  replace i0:Fd a0 j0=some j1:=i0
  unfold Fd at i0
  refine hS<|Gg [.a,.a] (u [] [(23,vB (decide (j0<5)))]) (aN)<|iC i0 (fun i0=>?_) (fun i0=>?_)
  ·refine hK<|Tn<|hS<|hB ?_
   obtain⟨k0,o0,n0,p0,t0,x0,i0⟩:=I8 i0
   refine Gg [.a,.a,.a,(.v (vI k0)),.a,.a,.a,.a,.a,(.v (vI n0)),.a,(.v (vB t0))] (u [23] [(37,vB t0)]) (aC (AI o0)<|aC (kx o0 (Fq .i64) (Bu a0) 2 7 0 1 false (vI k0))<|aC (Eq.refl (vI k0))<|aC (fun hg:((decide (k0<0))==false)=true=>aC (gi ((decide (k0<0))==false))<|aC (gi ((decide (k0<0))==false))<|aC (KW p0 hg).1<|aN)<|aC (fun hg:((decide (k0<0))==false)=true=>aC (gi ((decide (k0<0))==false))<|aC (kx (G8 p0 hg) (Fq .i64) (Bu a0) 2 7 0 1 false (vI n0))<|aC (Eq.refl (vI n0))<|aN)<|aG ((decide (k0<0))==false)<|aF (decide (k0<0))<|aB x0<|aN)<|iC i0 (fun i0=>?_) (fun i0=>?_)
   ·refine Rg [.a] (sl 38 [(2,vB false)] []) (aN)<|hR<|qR<|Tr ?_
    obtain rfl:=q0 _ (sI i0).symm
    replace h:=Cy h
    exact Tr<|qR<|Tr<|bQ _ (kB h)
   refine hK<|qN<|Tn<|Ge (nA 3) (u [] [(3,vI (Ab (j0+1))),(24,vI j0),(25,vI (Ab (j0+1)))]) (aN)<|Tn ⟨(Ab (j0+1)),(sI i0).symm,wT⟩
  refine hE<|Te ?_
  obtain rfl:=q0 _ (sI i0).symm
  replace h:=CZ h
  refine Te<|qX<|Tn ⟨(),h,wT⟩
 rintro _ m0
 replace m0:OS=some r:=m0
 unfold OS at m0
 exact Rg [.a] (sl 38 [(2,vB true)] []) (aN)<|hR<|bQ _ (kB m0)
def Kt (a0:Int):Option ((List UInt8)):=
 (if(a0==1)=true then
  some RS
 else
  (if(a0==2)=true then
   some RT
  else
   (if(a0==3)=true then
    some Wm
   else
    (if(a0==4)=true then
     some Qq
    else
     (if(a0==5)=true then
      some RU
     else
      (if(a0==6)=true then
       some Tz
      else
       (if(a0==7)=true then
        some TA
       else
        (if(a0==8)=true then
         some TB
        else
         (if(a0==9)=true then
          some TC
         else
          (if(a0==10)=true then
           some RV
          else
           (if(a0==11)=true then
            some Zt
           else
            (if(a0==12)=true then
             some TD
            else
             (if(a0==13)=true then
              some TE
             else
              (if(a0==14)=true then
               some RW
              else
               some ([]:List UInt8)))))))))))))))
def fw (a0:Int) (r:(List UInt8)):Prop:=Af Tryz.prog I0 154 [vI a0] (· =vS r)
theorem Ux {a0:Int} {r:(List UInt8)} (h:Kt a0=some r):fw a0 r:=by
 refine Af.bo Ae Tryz.func154 rfl Tryz.ntmps154 [.tmp 2] fun _ _ _ _=>?_
 unfold Kt at h
 refine Gg [.a] (u [] []) (aN)<|hS<|Rg [.a] (sl 32 [(3,vI a0)] []) (aN)<|hB<|Gg [.a,.a] (u [] [(4,vB (a0==1))]) (aN)<|iC h (fun h=>?_) (fun h=>?_)
 ·exact Rg [.a] (sl 32 [(2,vS RS)] []) (aN)<|hR<|qR<|Tr<|bQ _ (congrArg vS (sI h))
 refine Gg [.a,.a] (u [4] [(6,vB (a0==2))]) (aN)<|iC h (fun h=>?_) (fun h=>?_)
 ·exact Rg [.a] (sl 32 [(2,vS RT)] []) (aN)<|hR<|qR<|Tr<|bQ _ (congrArg vS (sI h))
 refine Gg [.a,.a] (u [6] [(8,vB (a0==3))]) (aN)<|iC h (fun h=>?_) (fun h=>?_)
 ·exact Rg [.a] (sl 32 [(2,vS Wm)] []) (aN)<|hR<|qR<|Tr<|bQ _ (congrArg vS (sI h))
 refine Gg [.a,.a] (u [8] [(10,vB (a0==4))]) (aN)<|iC h (fun h=>?_) (fun h=>?_)
 ·exact Rg [.a] (sl 32 [(2,vS Qq)] []) (aN)<|hR<|qR<|Tr<|bQ _ (congrArg vS (sI h))
 refine Gg [.a,.a] (u [10] [(12,vB (a0==5))]) (aN)<|iC h (fun h=>?_) (fun h=>?_)
 ·exact Rg [.a] (sl 32 [(2,vS RU)] []) (aN)<|hR<|qR<|Tr<|bQ _ (congrArg vS (sI h))
 refine Gg [.a,.a] (u [12] [(14,vB (a0==6))]) (aN)<|iC h (fun h=>?_) (fun h=>?_)
 ·exact Rg [.a] (sl 32 [(2,vS Tz)] []) (aN)<|hR<|qR<|Tr<|bQ _ (congrArg vS (sI h))
 refine Gg [.a,.a] (u [14] [(16,vB (a0==7))]) (aN)<|iC h (fun h=>?_) (fun h=>?_)
 ·exact Rg [.a] (sl 32 [(2,vS TA)] []) (aN)<|hR<|qR<|Tr<|bQ _ (congrArg vS (sI h))
 refine Rg [.a,.a] (sl 32 [(3,vI a0),(18,vB (a0==8))] []) (aN)<|iC h (fun h=>?_) (fun h=>?_)
 ·exact Rg [.a] (sl 32 [(2,vS TB)] []) (aN)<|hR<|qR<|Tr<|bQ _ (congrArg vS (sI h))
 refine Gg [.a,.a] (u [18] [(20,vB (a0==9))]) (aN)<|iC h (fun h=>?_) (fun h=>?_)
 ·exact Rg [.a] (sl 32 [(2,vS TC)] []) (aN)<|hR<|qR<|Tr<|bQ _ (congrArg vS (sI h))
 refine Gg [.a,.a] (u [20] [(22,vB (a0==10))]) (aN)<|iC h (fun h=>?_) (fun h=>?_)
 ·exact Rg [.a] (sl 32 [(2,vS RV)] []) (aN)<|hR<|qR<|Tr<|bQ _ (congrArg vS (sI h))
 refine Gg [.a,.a] (u [22] [(24,vB (a0==11))]) (aN)<|iC h (fun h=>?_) (fun h=>?_)
 ·exact Rg [.a] (sl 32 [(2,vS Zt)] []) (aN)<|hR<|qR<|Tr<|bQ _ (congrArg vS (sI h))
 refine Gg [.a,.a] (u [24] [(26,vB (a0==12))]) (aN)<|iC h (fun h=>?_) (fun h=>?_)
 ·exact Rg [.a] (sl 32 [(2,vS TD)] []) (aN)<|hR<|qR<|Tr<|bQ _ (congrArg vS (sI h))
 refine Gg [.a,.a] (u [26] [(28,vB (a0==13))]) (aN)<|iC h (fun h=>?_) (fun h=>?_)
 ·exact Rg [.a] (sl 32 [(2,vS TE)] []) (aN)<|hR<|qR<|Tr<|bQ _ (congrArg vS (sI h))
 refine Rg [.a,.a] (sl 32 [(30,vB (a0==14))] []) (aN)<|iC h (fun h=>?_) (fun h=>?_)
 ·exact Rg [.a] (sl 32 [(2,vS RW)] []) (aN)<|hR<|qR<|Tr<|bQ _ (congrArg vS (sI h))
 exact hK<|qN<|Tn<|Rg [.a] (sl 32 [(2,vS ([]:List UInt8))] []) (aN)<|hR<|bQ _ (congrArg vS (sI h))
def K5 (a0:Int):Option (Bool):=
 (some (if(a0==8)=true then true else a0==9)).bind fun b1=>
 (some (if b1=true then true else a0==10)).bind fun b2=>
 (some (if b2=true then true else a0==11)).bind fun b3=>
 (some (if b3=true then true else a0==12)).bind fun b4=>
 (some (if b4=true then true else a0==13)).bind fun b5=>
 some b5
def ZL (a0:Int) (r:Bool):Prop:=Af Tryz.prog I0 155 [vI a0] (· =vB r)
theorem Rx {a0:Int} {r:Bool} (h:K5 a0=some r):ZL a0 r:=by
 refine Af.bo Ae Tryz.func155 rfl Tryz.ntmps155 [.tmp 2] fun _ _ _ _=>?_
 unfold K5 at h
 refine Gg [.a] (u [] []) (aN) ?_
 obtain⟨b1,i0,b2,j0,b3,k0,b4,m0,h⟩:=D2 h
 obtain⟨b5,n0,h⟩:=bS h
 exact Rg [.a,.a,.a,.a,.a,(.v (vB b1)),.a,.a,.a,(.v (vB b2)),.a,.a,.a,(.v (vB b3)),.a,.a,.a,(.v (vB b4)),.a,.a,.a,(.v (vB b5)),.a] (sl 25 [(2,vB b5)] []) (aG ((a0==8)==false)<|aF (a0==8)<|aB i0<|aG (b1==false)<|aF b1<|aB j0<|aG (b2==false)<|aF b2<|aB k0<|aG (b3==false)<|aF b3<|aB m0<|aG (b4==false)<|aF b4<|aB n0<|aN)<|hR<|bQ _ (kB h)
def K6 (a0:AA):Option (Bool):=
 (some (if(a0.Zone != 0)=true then true else a0.Counter != 0)).bind fun b1=>
 (if b1=true then
  some false
 else
  (some (if(a0.Do==2)=true then true else a0.Do==4)).bind fun b3=>
  (if b3=true then
   (some (if(decide (1≤a0.N))=true then decide (a0.N≤99)else false)).bind fun b5=>
   some b5
  else
   some (a0.N==0)))
def ct (a0:AA) (r:Bool):Prop:=Af Tryz.prog I0 158 [vA AX a0] (· =vB r)
theorem ZM {a0:AA} {r:Bool} (h:K6 a0=some r):ct a0 r:=by
 refine Af.bo Ae Tryz.func158 rfl Tryz.ntmps158 [.tmp 2] fun _ _ _ _=>?_
 unfold K6 at h
 refine Rg [.a,.a] (sl 30 [(1,vP [1] (0))] [bx [1] (AX a0)]) (aN)<|hS ?_
 obtain⟨b1,i0,h⟩:=bS h
 refine Gg [.a,.a,.a,.a,.a,.a,.a,(.v (vB b1))] (u [] [(10,vB b1)]) (aG ((a0.Zone != 0)==false)<|aG ((a0.Zone != 0)==false)<|aF (a0.Zone != 0)<|aB i0<|aN)<|iC h (fun h=>?_) (fun h=>?_)
 ·exact Rg [.a] (sl 30 [(2,vB false)] []) (aN)<|hR<|Tr<|bQ _ (kB h)
 refine hK<|Tn<|hS ?_
 obtain⟨b3,j0,h⟩:=bS h
 refine Gg [.a,.a,.a,.a,.a,.a,.a,(.v (vB b3))] (u [10] [(18,vB b3)]) (aG ((a0.Do==2)==false)<|aG ((a0.Do==2)==false)<|aF (a0.Do==2)<|aB j0<|aN)<|iC h (fun h=>?_) (fun h=>?_)
 ·obtain⟨b5,k0,h⟩:=bS h
  exact Rg [.a,.a,.a,.a,.a,.a,.a,(.v (vB b5)),.a] (sl 30 [(2,vB b5)] []) (aG ((decide (1≤a0.N))==true)<|aG ((decide (1≤a0.N))==true)<|aT (decide (1≤a0.N))<|aB k0<|aN)<|hR<|Tr<|bQ _ (kB h)
 exact hK<|Tn<|Rg (nA 4) (sl 30 [(2,vB (a0.N==0))] []) (aN)<|hR<|bQ _ (kB h)
def Nu (a0:Int):Option ((List UInt8)):=
 (some (if(decide (a0<1))=true then true else decide (26<a0))).bind fun b1=>
 (if b1=true then
  some ([]:List UInt8)
 else
  (idx ([Nc,LI,Qg,Qh,LJ,Qi,Qj,Pm,OG,SI,Qk,Nd,SJ,Ql,LK,Qm,Nf,FO,Qn,Qo,Nh,Ni,Qp,SK,Nk,OH]:List (List UInt8)) (Ab (a0 - 1))).bind fun e3=>
  some e3)
def fx (a0:Int) (r:(List UInt8)):Prop:=Af Tryz.prog I0 199 [vI a0] (· =vS r)
theorem cu {a0:Int} {r:(List UInt8)} (h:Nu a0=some r):fx a0 r:=by
 refine Af.bo Ae Tryz.func199 rfl Tryz.ntmps199 [.tmp 2] fun _ _ _ _=>?_
 unfold Nu at h
 refine Gg [.a] (u [] []) (aN)<|hS ?_
 obtain⟨b1,j0,h⟩:=bS h
 refine Gg [.a,.a,.a,.a,.a,(.v (vB b1))] (u [] [(9,vB b1)]) (aG ((decide (a0<1))==false)<|aF (decide (a0<1))<|aB j0<|aN)<|iC h (fun h=>?_) (fun h=>?_)
 ·exact Rg [.a] (sl 16 [(2,vS ([]:List UInt8))] []) (aN)<|hR<|Tr<|bQ _ (congrArg vS (sI h))
 refine hK<|Tn<|Gg [.a,.a] (uo [9] [(3,vO [10])] [.e (Bp [10] 9 1 eS ([Nc,LI,Qg,Qh,LJ,Qi,Qj,Pm,OG,SI,Qk,Nd,SJ,Ql,LK,Qm,Nf,FO,Qn,Qo,Nh,Ni,Qp,SK,Nk,OH]:List (List UInt8)))]) (aN) ?_
 obtain⟨e3,i0,h⟩:=bS h
 exact Rg [.a,.a,.a,.a,(.v (vS e3)),.a] (sl 16 [(2,vS e3)] []) (aC (AI i0)<|aC (DI i0 OB 0 1 false (vS e3))<|aC (Eq.refl (vS e3))<|aN)<|hR<|bQ _ (congrArg vS (sI h))
def Ku (vt29_14:Bool):Option ((List UInt8)):=
 (if vt29_14=true then
  some ([]:List UInt8)
 else
  some lz)
def LR (a0:Int) (vt14_5:Bool):Option ((List UInt8)):=
 (if vt14_5=true then
  some hP
 else
  (if(a0==12)=true then
   some hU
  else
   (if(a0==13)=true then
    some ly
   else
    (if(a0==14)=true then
     some pH
    else
     (if(a0==18)=true then
      some hY
     else
      (if(a0==20)=true then
       some pI
      else
       (if(a0==21)=true then
        some pJ
       else
        (if(a0==23)=true then
         Ku (a0==23)
        else
         Ku (a0==24)))))))))
def EH (a0:Int) (vt4_1:Bool):Option ((List UInt8)):=
 (if vt4_1=true then
  some pG
 else
  (if(a0==3)=true then
   some lw
  else
   (if(a0==10)=true then
    LR a0 (a0==10)
   else
    LR a0 (a0==11))))
def WH (a0:Int):Option ((List UInt8)):=
 (if(a0==2)=true then
  EH a0 (a0==2)
 else
  (if(a0==8)=true then
   EH a0 (a0==8)
  else
   (if(a0==9)=true then
    EH a0 (a0==9)
   else
    (if(a0==15)=true then
     EH a0 (a0==15)
    else
     (if(a0==16)=true then
      EH a0 (a0==16)
     else
      (if(a0==17)=true then
       EH a0 (a0==17)
      else
       EH a0 (a0==25)))))))
def fy (a0:Int) (r:(List UInt8)):Prop:=Af Tryz.prog I0 233 [vI a0] (· =vS r)
theorem cv {a0:Int} {r:(List UInt8)} (h:WH a0=some r):fy a0 r:=by
 refine Af.bo Ae Tryz.func233 rfl Tryz.ntmps233 [.tmp 2] fun _ _ _ _=>?_
 unfold WH at h
 refine Gg [.a] (u [] []) (aN)<|hS<|Rg [.a] (sl 32 [(3,vI a0)] []) (aN)<|hB<|Gj (X:=Bool) (fun v=>(u [] [(4,vB v)])) (fun v=>EH a0 v=some r) ?_ ?_
 ·refine Gg [.a,.a] (u [] [(4,vB (a0==2))]) (aN)<|iC h (fun h=>?_) (fun h=>?_)
  ·refine hK<|Tn ⟨(a0==2),h,wT⟩
  refine Gg [.a,.a] (u [] [(4,vB (a0==8))]) (aN)<|iC h (fun h=>?_) (fun h=>?_)
  ·refine hK<|Tn ⟨(a0==8),h,wT⟩
  refine Gg [.a,.a] (u [] [(4,vB (a0==9))]) (aN)<|iC h (fun h=>?_) (fun h=>?_)
  ·refine hK<|Tn ⟨(a0==9),h,wT⟩
  refine Gg [.a,.a] (u [] [(4,vB (a0==15))]) (aN)<|iC h (fun h=>?_) (fun h=>?_)
  ·refine hK<|Tn ⟨(a0==15),h,wT⟩
  refine Gg [.a,.a] (u [] [(4,vB (a0==16))]) (aN)<|iC h (fun h=>?_) (fun h=>?_)
  ·refine hK<|Tn ⟨(a0==16),h,wT⟩
  refine Gg [.a,.a] (u [] [(4,vB (a0==17))]) (aN)<|iC h (fun h=>?_) (fun h=>?_)
  ·refine hK<|Tn ⟨(a0==17),h,wT⟩
  refine Ge [.a,.a] (u [] [(4,vB (a0==25)),(11,vB (a0==25))]) (aN)<|Tn ⟨(a0==25),h,wT⟩
 rintro o0 j0
 replace j0:EH a0 o0=some r:=j0
 unfold EH at j0
 refine iC j0 (fun j0=>?_) (fun j0=>?_)
 ·exact Rg [.a] (sl 32 [(2,vS pG)] []) (aN)<|hR<|qR<|Tr<|bQ _ (congrArg vS (sI j0))
 refine Gg [.a,.a] (u [4] [(12,vB (a0==3))]) (aN)<|iC j0 (fun j0=>?_) (fun j0=>?_)
 ·exact Rg [.a] (sl 32 [(2,vS lw)] []) (aN)<|hR<|qR<|Tr<|bQ _ (congrArg vS (sI j0))
 refine Gj (X:=Bool) (fun v=>(u [12] [(14,vB v)])) (fun v=>LR a0 v=some r) ?_ ?_
 ·refine Gg [.a,.a] (u [12] [(14,vB (a0==10))]) (aN)<|iC j0 (fun j0=>?_) (fun j0=>?_)
  ·refine hK<|Tn ⟨(a0==10),j0,wT⟩
  refine Ge [.a,.a] (u [] [(14,vB (a0==11)),(16,vB (a0==11))]) (aN)<|Tn ⟨(a0==11),j0,wT⟩
 rintro n0 i0
 replace i0:LR a0 n0=some r:=i0
 unfold LR at i0
 refine iC i0 (fun i0=>?_) (fun i0=>?_)
 ·exact Rg [.a] (sl 32 [(2,vS hP)] []) (aN)<|hR<|qR<|Tr<|bQ _ (congrArg vS (sI i0))
 refine Gg [.a,.a] (u [14] [(17,vB (a0==12))]) (aN)<|iC i0 (fun i0=>?_) (fun i0=>?_)
 ·exact Rg [.a] (sl 32 [(2,vS hU)] []) (aN)<|hR<|qR<|Tr<|bQ _ (congrArg vS (sI i0))
 refine Gg [.a,.a] (u [17] [(19,vB (a0==13))]) (aN)<|iC i0 (fun i0=>?_) (fun i0=>?_)
 ·exact Rg [.a] (sl 32 [(2,vS ly)] []) (aN)<|hR<|qR<|Tr<|bQ _ (congrArg vS (sI i0))
 refine Gg [.a,.a] (u [19] [(21,vB (a0==14))]) (aN)<|iC i0 (fun i0=>?_) (fun i0=>?_)
 ·exact Rg [.a] (sl 32 [(2,vS pH)] []) (aN)<|hR<|qR<|Tr<|bQ _ (congrArg vS (sI i0))
 refine Gg [.a,.a] (u [21] [(23,vB (a0==18))]) (aN)<|iC i0 (fun i0=>?_) (fun i0=>?_)
 ·exact Rg [.a] (sl 32 [(2,vS hY)] []) (aN)<|hR<|qR<|Tr<|bQ _ (congrArg vS (sI i0))
 refine Rg [.a,.a] (sl 32 [(3,vI a0),(25,vB (a0==20))] []) (aN)<|iC i0 (fun i0=>?_) (fun i0=>?_)
 ·exact Rg [.a] (sl 32 [(2,vS pI)] []) (aN)<|hR<|qR<|Tr<|bQ _ (congrArg vS (sI i0))
 refine Gg [.a,.a] (u [25] [(27,vB (a0==21))]) (aN)<|iC i0 (fun i0=>?_) (fun i0=>?_)
 ·exact Rg [.a] (sl 32 [(2,vS pJ)] []) (aN)<|hR<|qR<|Tr<|bQ _ (congrArg vS (sI i0))
 refine Sj (X:=Bool) (fun v=>(sl 32 [(29,vB v)] [])) (fun v=>Ku v=some r) ?_ ?_
 ·refine Gg [.a,.a] (u [27] [(29,vB (a0==23))]) (aN)<|iC i0 (fun i0=>?_) (fun i0=>?_)
  ·refine hK<|Tn ⟨(a0==23),i0,wT⟩
  refine Ge [.a,.a] (u [] [(29,vB (a0==24)),(31,vB (a0==24))]) (aN)<|Tn ⟨(a0==24),i0,wT⟩
 rintro m0 k0
 replace k0:Ku m0=some r:=k0
 unfold Ku at k0
 refine iC k0 (fun k0=>?_) (fun k0=>?_)
 ·exact Rg [.a] (sl 32 [(2,vS ([]:List UInt8))] []) (aN)<|hR<|qR<|Tr<|bQ _ (congrArg vS (sI k0))
 exact hK<|qN<|Tn<|Rg [.a] (sl 32 [(2,vS lz)] []) (aN)<|hR<|bQ _ (congrArg vS (sI k0))
def Mx (a0:Int):Option (Bool):=
 (some (if(a0==3)=true then true else a0==8)).bind fun b1=>
 some b1
def WI (a0:Int) (r:Bool):Prop:=Af Tryz.prog I0 234 [vI a0] (· =vB r)
theorem UY {a0:Int} {r:Bool} (h:Mx a0=some r):WI a0 r:=by
 refine Af.bo Ae Tryz.func234 rfl Tryz.ntmps234 [.tmp 2] fun _ _ _ _=>?_
 unfold Mx at h
 refine Gg [.a] (u [] []) (aN) ?_
 obtain⟨b1,i0,h⟩:=bS h
 exact Rg [.a,.a,.a,.a,.a,(.v (vB b1)),.a] (sl 9 [(2,vB b1)] []) (aG ((a0==3)==false)<|aF (a0==3)<|aB i0<|aN)<|hR<|bQ _ (kB h)
def OT (a0:Int):Option ((List UInt8)):=
 (if(a0==0)=true then
  some bM
 else
  (if(a0==1)=true then
   some YC
  else
   (if(a0==2)=true then
    some Wn
   else
    some ([]:List UInt8))))
def fA (a0:Int) (r:(List UInt8)):Prop:=Af Tryz.prog I0 202 [vI a0] (· =vS r)
theorem Uy {a0:Int} {r:(List UInt8)} (h:OT a0=some r):fA a0 r:=by
 refine Af.bo Ae Tryz.func202 rfl Tryz.ntmps202 [.tmp 2] fun _ _ _ _=>?_
 unfold OT at h
 refine Gg [.a] (u [] []) (aN)<|hS<|Rg [.a] (sl 10 [(3,vI a0)] []) (aN)<|hB<|Gg [.a,.a] (u [] [(4,vB (a0==0))]) (aN)<|iC h (fun h=>?_) (fun h=>?_)
 ·exact Rg [.a] (sl 10 [(2,vS bM)] []) (aN)<|hR<|qR<|Tr<|bQ _ (congrArg vS (sI h))
 refine Gg [.a,.a] (u [4] [(6,vB (a0==1))]) (aN)<|iC h (fun h=>?_) (fun h=>?_)
 ·exact Rg [.a] (sl 10 [(2,vS YC)] []) (aN)<|hR<|qR<|Tr<|bQ _ (congrArg vS (sI h))
 refine Rg [.a,.a] (sl 10 [(8,vB (a0==2))] []) (aN)<|iC h (fun h=>?_) (fun h=>?_)
 ·exact Rg [.a] (sl 10 [(2,vS Wn)] []) (aN)<|hR<|qR<|Tr<|bQ _ (congrArg vS (sI h))
 exact hK<|qN<|Tn<|Rg [.a] (sl 10 [(2,vS ([]:List UInt8))] []) (aN)<|hR<|bQ _ (congrArg vS (sI h))
def NY (b3_2:AP):Option (AP):=
 some b3_2
def Qu (a0:A6 (Int)) (i_t4_6:Int) (b3_7:AP):Option ((Int×AP)⊕(AP)):=
 (if(decide (i_t4_6<5))=true then
  (idx a0.l (Ab (i_t4_6+1))).bind fun e11=>
  (idx b3_7.Color.l i_t4_6).bind fun e12=>
  some (.inl ((Ab (i_t4_6+1)),({b3_7 with Color:=b3_7.Color.set (i_t4_6).toNat e11})))
 else
  some (.inr b3_7))
def SW (a0:A6 (Int)):Option (AP):=
 (idx a0.l (0:Int)).bind fun e1=>
 (iter (fun(v:Int×AP)=>Qu a0 v.1 v.2) FU ((0:Int),(⟨e1,0,(⟨0,0,0,0,0⟩:A5 (Int))⟩:AP))).bind (fun o0=>NY o0)
def fB (a0:A6 (Int)) (r:AP):Prop:=Af Tryz.prog I0 236 [vA (QY (eI .i64)) a0] (· =vA Bu r)
theorem cw {a0:A6 (Int)} {r:AP} (h:SW a0=some r):fB a0 r:=by
 refine Af.bo Ae Tryz.func236 rfl Tryz.ntmps236 [.cell 2 41] fun _ _ _ _=>?_
 unfold SW at h
 refine Rg [.a,.a] (sl 20 [(1,vP [1] (0)),(2,vP [2] (0))] [bx [2] [Aa 0,Aa 0,Aa (((⟨0,0,0,0,0⟩:A5 (Int))).x0),Aa (((⟨0,0,0,0,0⟩:A5 (Int))).x1),Aa (((⟨0,0,0,0,0⟩:A5 (Int))).x2),Aa (((⟨0,0,0,0,0⟩:A5 (Int))).x3),Aa (((⟨0,0,0,0,0⟩:A5 (Int))).x4)],bx [1] (QY (eI .i64) a0)]) (aN) ?_
 obtain⟨e1,t0,h⟩:=bS h
 refine Gg [.a,(.v (vI e1)),.a,.a,.a] (uo [] [(3,vP [3] (0))] [.e (bx [3] [Aa e1,Aa 0,Aa (((⟨0,0,0,0,0⟩:A5 (Int))).x0),Aa (((⟨0,0,0,0,0⟩:A5 (Int))).x1),Aa (((⟨0,0,0,0,0⟩:A5 (Int))).x2),Aa (((⟨0,0,0,0,0⟩:A5 (Int))).x3),Aa (((⟨0,0,0,0,0⟩:A5 (Int))).x4)]),.k 0,.k 1]) (aC (AI t0)<|aC (kx t0 (Fq .i64) (QY (eI .i64) a0) 0 6 0 1 false (vI e1))<|aC (Eq.refl (vI e1))<|aC (And.intro (show True∧True from⟨trivial,trivial⟩) hZ)<|aN)<|Gj (X:=AP) (fun v=>(uo [1] [] [.e (bx [3] (Bu v)),.k 1])) (fun v=>NY v=some r) ?_ ?_
 ·refine Gg [.a] (u [] [(4,vI 0)]) (aN)<|hB ?_
  obtain⟨j1,y0,h⟩:=bS h
  refine Gi (fun(v:Int×AP)=>(uo [] [(4,vI v.1)] [.e (bx [3] (Bu v.2)),.k 1,.k 2])) y0 (wT) ?_
  rintro⟨i0,j0⟩ d1 k0 z0
  replace k0:Qu a0 i0 j0=some d1:=k0
  unfold Qu at k0
  refine hS<|Gg [.a,.a] (u [] [(9,vB (decide (i0<5)))]) (aN)<|iC k0 (fun k0=>?_) (fun k0=>?_)
  ·refine hK<|Tn<|hS<|hB ?_
   obtain⟨m0,p0,i1,q0,k0⟩:=Ex k0
   refine Ge [.a,.a,.a,.a,(.v (vI m0)),.a,.a,(.e 0 (Bu ({j0 with Color:=j0.Color.set (i0).toNat m0})))] (uo [] [(12,vI i0),(13,vI i0),(14,vI (Ab (i0+1))),(15,vP [1] (0+(Ab (i0+1)).toNat *1)),(16,vI m0),(17,vP [3] (2)),(18,vP [3] (2+(i0).toNat *1))] [.e (bx [3] (Bu ({j0 with Color:=j0.Color.set (i0).toNat m0}))),.k 1,.k 2]) (aC (AI p0)<|aC (kx p0 (Fq .i64) (QY (eI .i64) a0) 0 6 0 1 false (vI m0))<|aC (Eq.refl (vI m0))<|aC (AI q0)<|aC (show 2+(i0).toNat *1+1≤(Bu j0).length ∧(Bu j0).take (2+(i0).toNat *1)++([Aa m0]:List C)++(Bu j0).drop (2+(i0).toNat *1+([Aa m0]:List C).length)=(Bu ({j0 with Color:=j0.Color.set (i0).toNat m0}))from(Zg (e:=eI .i64) (N:=1) (l:=j0.Color.l) (i:=i0) (x':=m0) (o:=0) (base:=2) (cs:=([Aa m0]:List C)) (pre:=(Bu j0).take 2) (post:=(Bu j0).drop 7) (by kernel_rfl) (by kernel_rfl) (by kernel_rfl) (A5.l_set _ _ _) q0 (Fq .i64) (by omega) (Nat.le_of_ble_eq_true (by kernel_rfl)) (by kernel_rfl)))<|aC (show ((none:Option (TypeId×Nat×Nat))=none)∧True from⟨rfl,trivial⟩)<|aN)<|qN<|Tn<|Ge (nA 3) (u [] [(4,vI (Ab (i0+1))),(10,vI i0),(11,vI (Ab (i0+1)))]) (aN)<|Tn ⟨((Ab (i0+1)),({j0 with Color:=j0.Color.set (i0).toNat m0})),(sI k0).symm,wT⟩
  refine hE<|Te ?_
  obtain rfl:=z0 _ (sI k0).symm
  refine Te<|qX<|Tn ⟨j0,h,wT⟩
 rintro n0 o0
 replace o0:NY n0=some r:=o0
 unfold NY at o0
 exact Gg [.a,.a] (uo [3] [] [.e (bx [2] (Bu n0))]) (aN)<|hR<|bE (vA Bu n0) (.agg (Bu n0)) (congrArg (vA Bu) (sI o0))
def Ra:Option (Bool):=
 some true
def TO (a0:List (Int)) (i_t3_3:Int):Option ((Int)⊕(Unit⊕Unit)):=
 (if(decide (i_t3_3<(a0.length:Int)))=true then
  (idx a0 (Ab (i_t3_3 - 1))).bind fun e6=>
  (idx a0 i_t3_3).bind fun e7=>
  (if(decide (e7≤e6))=true then
   some (.inr (.inr ()))
  else
   some (.inl (Ab (i_t3_3+1))))
 else
  some (.inr (.inl ())))
def ZN (a0:List (Int)):Option (Bool):=
 (iter (fun(v:Int)=>TO a0 v) FU (1:Int)).bind (Sum.elim (fun o0=>Ra) (fun o1=>some false))
def lK (a0:List (Int)) (r:Bool):Prop:=Af Tryz.prog I0 55 [vL (eI .i64) a0] (· =vB r)
theorem jF {a0:List (Int)} {r:Bool} (h:ZN a0=some r):lK a0 r:=by
 refine Af.bo Ae Tryz.func55 rfl Tryz.ntmps55 [.tmp 2] fun _ _ _ _=>?_
 unfold ZN at h
 refine Gg [.a] (u [] []) (aN)<|Sj (X:=Unit) (fun v=>(sl 20 [] [])) (fun v=>Ra=some r) ?_ ?_
 ·refine Gg [.a] (u [] [(3,vI 1)]) (aN)<|hB ?_
  obtain⟨t0,p0,h⟩:=bS h
  refine Gi (fun(v:Int)=>(u [] [(3,vI v)])) p0 (wT) ?_
  rintro j0 q0 i0 m0
  replace i0:TO a0 j0=some q0:=i0
  unfold TO at i0
  refine hS<|Gg (nA 4) (u [] [(7,vB (decide (j0<(a0.length:Int))))]) (aN)<|iC i0 (fun i0=>?_) (fun i0=>?_)
  ·refine hK<|Tn<|hS<|hB ?_
   obtain⟨e6,n0,e7,o0,i0⟩:=Ex i0
   refine Gq BF [.a,.a,.a,.a,(.v (vI e6)),.a,.a,.a,(.v (vI e7)),.a] (u [7] [(19,vB (decide (e7≤e6)))]) (aC (AI n0)<|aC (DI n0 (Fq .i64) 0 1 false (vI e6))<|aC (Eq.refl (vI e6))<|aC (AI o0)<|aC (DI o0 (Fq .i64) 0 1 false (vI e7))<|aC (Eq.refl (vI e7))<|aN)<|iC i0 (fun i0=>?_) (fun i0=>?_)
   ·refine Rg [.a] (sl 20 [(2,vB false)] []) (aN)<|hR<|qR<|Tr ?_
    obtain rfl:=m0 _ (sI i0).symm
    replace h:=Cy h
    exact Tr<|qR<|Tr<|bQ _ (kB h)
   refine hK<|qN<|Tn<|Ge (nA 3) (u [] [(3,vI (Ab (j0+1))),(8,vI j0),(9,vI (Ab (j0+1)))]) (aN)<|Tn ⟨(Ab (j0+1)),(sI i0).symm,wT⟩
  refine hE<|Te ?_
  obtain rfl:=m0 _ (sI i0).symm
  replace h:=CZ h
  refine Te<|qX<|Tn ⟨(),h,wT⟩
 rintro _ k0
 replace k0:Ra=some r:=k0
 unfold Ra at k0
 exact Rg [.a] (sl 20 [(2,vB true)] []) (aN)<|hR<|bQ _ (kB k0)
end Go.PL
