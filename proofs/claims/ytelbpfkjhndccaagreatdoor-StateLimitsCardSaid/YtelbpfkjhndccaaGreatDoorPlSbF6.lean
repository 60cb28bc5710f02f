/- Functions of the program, as partial functions in Lean, with proofs. -/
import Derived.Test.YtelbpfkjhndccaaGreatDoorPlSbB
import Derived.Test.YtelbpfkjhndccaaGreatDoorPlSbF0
import Derived.Test.YtelbpfkjhndccaaGreatDoorPlSbF1
import Derived.Test.YtelbpfkjhndccaaGreatDoorPlSbF2
import Derived.Test.YtelbpfkjhndccaaGreatDoorPlSbF4
import Derived.Test.YtelbpfkjhndccaaGreatDoorPlSbF5
namespace Go.PL
open Go Go.RowKit Go.Proofs
set_option maxRecDepth 100000
set_option linter.all false
set_option maxHeartbeats 4000000
attribute [local irreducible] Ai B4 BL
def Kg:Option (Bool):=
 some true
def H2 (a0:AN) (i_t4_11:Int):Option ((Int)⊕(Unit⊕Unit)):=
 (if(decide (i_t4_11<(a0.Specs.length:Int)))=true then
  (idx a0.Specs i_t4_11).bind fun e14=>
  (if(decide (100<(e14.Filter.Sub.length:Int)))=true then
   some (.inr (.inr ()))
  else
   some (.inl (Ab (i_t4_11+1))))
 else
  some (.inr (.inl ())))
def IW (a0:AN):Option (Bool):=
 (iter (fun(v:Int)=>H2 a0 v) FU (0:Int)).bind (Sum.elim (fun o0=>Kg) (fun o1=>some false))
def H3 (a0:AN) (i_t3_17:Int):Option ((Int)⊕(Unit⊕Unit)):=
 (if(decide (i_t3_17<(a0.Mods.length:Int)))=true then
  (idx a0.Mods i_t3_17).bind fun e20=>
  (gd ((decide (100<(e20.Sub.length:Int)))==false) (idx a0.Mods i_t3_17)).bind fun e21=>
  (some (if(decide (100<(e20.Sub.length:Int)))=true then true else decide (100<(e21.Filter.Sub.length:Int)))).bind fun b22=>
  (if b22=true then
   some (.inr (.inr ()))
  else
   some (.inl (Ab (i_t3_17+1))))
 else
  some (.inr (.inl ())))
def IH (a0:AN):Option (Bool):=
 (some (if(decide (100<(a0.Filter.Sub.length:Int)))=true then true else decide (20<(a0.Mods.length:Int)))).bind fun b1=>
 (some (if b1=true then true else decide (100<(a0.Trigger.Filter.Sub.length:Int)))).bind fun b2=>
 (some (if b2=true then true else decide (20<(a0.Specs.length:Int)))).bind fun b3=>
 (some (if b3=true then true else decide (100<(a0.Replace.Filter.Sub.length:Int)))).bind fun b4=>
 (gd (b4==false) (HZ a0.Effects)).bind fun r5=>
 (some (if b4=true then true else !r5)).bind fun b6=>
 (if b6=true then
  some false
 else
  (iter (fun(v:Int)=>H3 a0 v) FU (0:Int)).bind (Sum.elim (fun o0=>IW a0) (fun o1=>some false)))
def Zb (a0:AN) (r:Bool):Prop:=Ah Tryz.prog I0 26 [vA Bp a0] (· =vB r)
theorem MF {a0:AN} {r:Bool} (h:IH a0=some r):Zb a0 r:=by
 refine Ah.bo Ag Tryz.func26 rfl Tryz.ntmps26 [.tmp 2] fun _ _ _ _=>?_
 unfold IH at h
 refine Rg [.a,.a] (sl 86 [(1,vP [1] (0))] [bx [1] (Bp a0)]) (aN)<|hS ?_
 obtain⟨b1,q1,b2,t1,b3,x1,b4,y1,h⟩:=Ij h
 obtain⟨r5,d2,b6,z1,h⟩:=JX h
 refine Gg [.a,.a,.a,.a,.a,.a,.a,.a,.a,.a,(.v (vB b1)),.a,.a,.a,.a,.a,.a,.a,(.v (vB b2)),.a,.a,.a,.a,.a,(.v (vB b3)),.a,.a,.a,.a,.a,.a,.a,(.v (vB b4)),.a,.a,.a,(.c (vB r5)),.a,(.v (vB b6))] (u [] [(43,vB b6)]) (aG ((decide (100<(a0.Filter.Sub.length:Int)))==false)<|aG ((decide (100<(a0.Filter.Sub.length:Int)))==false)<|aG ((decide (100<(a0.Filter.Sub.length:Int)))==false)<|aF (decide (100<(a0.Filter.Sub.length:Int)))<|aB q1<|aG (b1==false)<|aG (b1==false)<|aG (b1==false)<|aG (b1==false)<|aG (b1==false)<|aF b1<|aB t1<|aG (b2==false)<|aG (b2==false)<|aG (b2==false)<|aF b2<|aB x1<|aG (b3==false)<|aG (b3==false)<|aG (b3==false)<|aG (b3==false)<|aG (b3==false)<|aF b3<|aB y1<|aG (b4==false)<|aC (c1 d2 Q1)<|aG (b4==false)<|aF b4<|aB z1<|aN)<|iC h (fun h=>?_) (fun h=>?_)
 ·exact Rg [.a] (sl 86 [(2,vB false)] []) (aN)<|hR<|Tr<|bQ _ (kB h)
 refine hK<|Tn<|Gj (X:=Unit) (fun v=>(u [43] [])) (fun v=>IW a0=some r) ?_ ?_
 ·refine Gg [.a] (u [43] [(3,vI 0)]) (aN)<|hB ?_
  obtain⟨j2,k1,h⟩:=bS h
  refine Gi (fun(v:Int)=>(u [] [(3,vI v)])) k1 (wT) ?_
  rintro k0 p1 j0 x0
  replace j0:H3 a0 k0=some p1:=j0
  unfold H3 at j0
  refine hS<|Gg (nA 5) (u [] [(48,vB (decide (k0<(a0.Mods.length:Int))))]) (aN)<|iC j0 (fun j0=>?_) (fun j0=>?_)
  ·refine hK<|Tn<|hS<|hB ?_
   obtain⟨n0,d1,y0,i1,m1,n1,j0⟩:=M9 j0
   refine Gg [.a,.a,.a,.a,.a,(.v (vS n0.Sub)),.a,.a,.a,.a,.a,.a,.a,.a,.a,(.v (vS y0.Filter.Sub)),.a,.a,(.v (vB m1))] (u [48] [(69,vB m1)]) (aC (Bm d1)<|aC (GN d1 Mo 3 1 false (vS n0.Sub))<|aC (Eq.refl (vS n0.Sub))<|aG ((decide (100<(n0.Sub.length:Int)))==false)<|aC (fun hg:((decide (100<(n0.Sub.length:Int)))==false)=true=>aC (gi ((decide (100<(n0.Sub.length:Int)))==false))<|aC (gi ((decide (100<(n0.Sub.length:Int)))==false))<|aC (OW i1 hg).1<|aN)<|aG ((decide (100<(n0.Sub.length:Int)))==false)<|aG ((decide (100<(n0.Sub.length:Int)))==false)<|aC (fun hg:((decide (100<(n0.Sub.length:Int)))==false)=true=>aC (gi ((decide (100<(n0.Sub.length:Int)))==false))<|aC (GN (M8 i1 hg) Mo 11 1 false (vS y0.Filter.Sub))<|aC (Eq.refl (vS y0.Filter.Sub))<|aN)<|aG ((decide (100<(n0.Sub.length:Int)))==false)<|aG ((decide (100<(n0.Sub.length:Int)))==false)<|aF (decide (100<(n0.Sub.length:Int)))<|aB n1<|aN)<|iC j0 (fun j0=>?_) (fun j0=>?_)
   ·refine Rg [.a] (sl 86 [(2,vB false)] []) (aN)<|hR<|qR<|Tr ?_
    obtain rfl:=x0 _ (sI j0).symm
    replace h:=EL h
    exact Tr<|qR<|Tr<|bQ _ (kB h)
   refine hK<|qN<|Tn<|Ge (nA 3) (u [] [(3,vI (Ab (k0+1))),(49,vI k0),(50,vI (Ab (k0+1)))]) (aN)<|Tn ⟨(Ab (k0+1)),(sI j0).symm,wT⟩
  refine hE<|Te ?_
  obtain rfl:=x0 _ (sI j0).symm
  replace h:=Fa h
  refine Te<|qX<|Tn ⟨(),h,wT⟩
 rintro _ o0
 replace o0:IW a0=some r:=o0
 unfold IW at o0
 refine Sj (X:=Unit) (fun v=>(sl 86 [] [])) (fun v=>Kg=some r) ?_ ?_
 ·refine Gg [.a] (u [] [(4,vI 0)]) (aN)<|hB ?_
  obtain⟨i2,j1,o0⟩:=bS o0
  refine Gi (fun(v:Int)=>(u [] [(4,vI v)])) j1 (wT) ?_
  rintro m0 o1 i0 t0
  replace i0:H2 a0 m0=some o1:=i0
  unfold H2 at i0
  refine hS<|Gg (nA 5) (u [] [(74,vB (decide (m0<(a0.Specs.length:Int))))]) (aN)<|iC i0 (fun i0=>?_) (fun i0=>?_)
  ·refine hK<|Tn<|hS<|hB ?_
   obtain⟨p0,z0,i0⟩:=bS i0
   refine Gg [.a,.a,.a,.a,.a,.a,(.v (vS p0.Filter.Sub)),.a,.a] (u [74] [(85,vB (decide (100<(p0.Filter.Sub.length:Int))))]) (aC (Bm z0)<|aC (GN z0 PM 9 1 false (vS p0.Filter.Sub))<|aC (Eq.refl (vS p0.Filter.Sub))<|aN)<|iC i0 (fun i0=>?_) (fun i0=>?_)
   ·refine Rg [.a] (sl 86 [(2,vB false)] []) (aN)<|hR<|qR<|Tr ?_
    obtain rfl:=t0 _ (sI i0).symm
    replace o0:=EL o0
    exact Tr<|qR<|Tr<|bQ _ (kB o0)
   refine hK<|qN<|Tn<|Ge (nA 3) (u [] [(4,vI (Ab (m0+1))),(75,vI m0),(76,vI (Ab (m0+1)))]) (aN)<|Tn ⟨(Ab (m0+1)),(sI i0).symm,wT⟩
  refine hE<|Te ?_
  obtain rfl:=t0 _ (sI i0).symm
  replace o0:=Fa o0
  refine Te<|qX<|Tn ⟨(),o0,wT⟩
 rintro _ q0
 replace q0:Kg=some r:=q0
 unfold Kg at q0
 exact Rg [.a] (sl 86 [(2,vB true)] []) (aN)<|hR<|bQ _ (kB q0)
def Er (a1:Aj):Option (Bool):=
 some (decide ((a1.Objects.length:Int)≤2048))
def Ca (a0:List (HW)) (a1:Aj) (last_t5_4:Int) (vt11_5:Int):Option ((Int×Int)⊕(Unit⊕Unit)):=
 (if(decide (vt11_5<(a1.Objects.length:Int)))=true then
  (idx a1.Objects vt11_5).bind fun e8=>
  (some (if(decide (e8.Id≤last_t5_4))=true then true else decide (a1.NextId≤e8.Id))).bind fun b9=>
  (some (if b9=true then true else decide (a1.NextStamp≤e8.Stamp))).bind fun b10=>
  (gd (b10==false) (IG e8 (a0.length:Int) (a1.Players.length:Int))).bind fun r11=>
  (some (if b10=true then true else !r11)).bind fun b12=>
  (if b12=true then
   some (.inr (.inr ()))
  else
   some (.inl (e8.Id,(Ab (vt11_5+1)))))
 else
  some (.inr (.inl ())))
def H4 (a0:List (HW)) (a1:Aj):Option (Bool):=
 (iter (fun(v:Int×Int)=>Ca a0 a1 v.1 v.2) FU ((0:Int),(0:Int))).bind (Sum.elim (fun o0=>Er a1) (fun o1=>some false))
def Sk (a0:List (HW)) (a1:Aj) (r:Bool):Prop:=Ah Tryz.prog I0 16 [vL JD a0,vA Am a1] (· =vB r)
theorem Q7 {a0:List (HW)} {a1:Aj} {r:Bool} (h:H4 a0 a1=some r):Sk a0 a1 r:=by
 refine Ah.bo Ag Tryz.func16 rfl Tryz.ntmps16 [.tmp 4] fun _ _ _ _=>?_
 unfold H4 at h
 refine Gg [.a,.a] (uo [1] [(3,vP [3] (0))] [.e (bx [3] (Am a1))]) (aN)<|Gg [.a] (u [] [(5,vI 0)]) (aN)<|Gj (X:=Unit) (fun v=>(u [0,5] [])) (fun v=>Er a1=some r) ?_ ?_
 ·refine Gg (nA 4) (u [] [(9,vL Ac a1.Objects),(10,vI (a1.Objects.length:Int)),(11,vI 0)]) (aN)<|hB ?_
  obtain⟨k1,y0,h⟩:=bS h
  refine Gi (fun(v:Int×Int)=>(u [] [(5,vI v.1),(11,vI v.2)])) y0 (wT) ?_
  rintro⟨j0,k0⟩ j1 i0 p0
  replace i0:Ca a0 a1 j0 k0=some j1:=i0
  unfold Ca at i0
  refine Gg [.a] (u [] [(12,vB (decide (k0<(a1.Objects.length:Int))))]) (aN)<|hS<|iC i0 (fun i0=>?_) (fun i0=>?_)
  ·refine hK<|Tn<|hS<|hB ?_
   obtain⟨e8,q0,i0⟩:=bS i0
   refine Gg [.a,(.v (vA Ac e8)),.a,.a] (uo [12] [(7,vP [7] (0))] [.e (bx [7] (Ac e8)),.k 0]) (aC (Bm q0)<|aC (GN q0 GX 0 19 true (vA Ac e8))<|aC (Eq.refl (vA Ac e8))<|aN)<|hS ?_
   obtain⟨b9,d1,m0,t0,i1,z0,n0,x0,i0⟩:=Ij i0
   refine Gg [.a,.a,.a,.a,.a,.a,.a,.a,.a,.a,(.v (vB b9)),.a,.a,.a,.a,.a,.a,(.v (vB m0)),.a,.a,.a,.a,.a,.a,.a,(.c (vB i1)),.a,(.v (vB n0))] (u [5] [(42,vB n0)]) (aG ((decide (e8.Id≤j0))==false)<|aG ((decide (e8.Id≤j0))==false)<|aH ((decide (e8.Id≤j0))==false)<|aF (decide (e8.Id≤j0))<|aB d1<|aG (b9==false)<|aG (b9==false)<|aH (b9==false)<|aF b9<|aB t0<|aG (m0==false)<|aG (m0==false)<|aG (m0==false)<|aC (c3 z0 Xz)<|aG (m0==false)<|aF m0<|aB x0<|aN)<|iC i0 (fun i0=>?_) (fun i0=>?_)
   ·refine Rg [.a] (sl 50 [(4,vB false)] []) (aN)<|hR<|Tr<|qR<|Tr ?_
    obtain rfl:=p0 _ (sI i0).symm
    replace h:=EL h
    exact Tr<|qR<|Tr<|bQ _ (kB h)
   refine hK<|Tn<|Re (nA 3) (sl 50 [(0,vL JD a0),(3,vP [3] (0)),(5,vI e8.Id),(7,vP [7] (0)),(9,vL Ac a1.Objects),(10,vI (a1.Objects.length:Int)),(11,vI k0),(42,vB n0),(43,vP [7] (0)),(44,vI e8.Id)] [bx [7] (Ac e8),bx [3] (Am a1)]) (aN)<|qN<|Tn<|Re [.a,.a] (sl 50 [(0,vL JD a0),(3,vP [3] (0)),(5,vI e8.Id),(7,vP [7] (0)),(9,vL Ac a1.Objects),(10,vI (a1.Objects.length:Int)),(11,vI (Ab (k0+1))),(42,vB n0),(43,vP [7] (0)),(44,vI e8.Id),(45,vI (Ab (k0+1)))] [bx [7] (Ac e8),bx [3] (Am a1)]) (aN)<|Tn ⟨(e8.Id,(Ab (k0+1))),(sI i0).symm,wT⟩
  refine hE<|Te ?_
  obtain rfl:=p0 _ (sI i0).symm
  replace h:=Fa h
  refine Te<|qX<|Tn ⟨(),h,wT⟩
 rintro _ o0
 replace o0:Er a1=some r:=o0
 unfold Er at o0
 exact Rg (nA 5) (sl 50 [(4,vB (decide ((a1.Objects.length:Int)≤2048)))] []) (aN)<|hR<|bQ _ (kB o0)
def Aq (a0:List (Ao)) (i_t9_1:Int) (q4:Int):Option (Int×Bool):=
 (some (if(decide (i_t9_1<(a0.length:Int)))=true then q4==0 else false)).bind fun b6=>
 some (i_t9_1,b6)
def AC (a0:List (Ao)) (a1:Int) (i_t9_1:Int):Option (Int×Bool):=
 (gd ((decide (i_t9_1<(a0.length:Int)))==true) (idx a0 i_t9_1)).bind fun e3=>
 (if((decide (i_t9_1<(a0.length:Int)))==true)=true then
  (D5 e3.Id a1).bind fun r7=>
  Aq a0 i_t9_1 r7
 else
  Aq a0 i_t9_1 (0:Int))
def Al (a0:List (Ao)) (a1:Int) (i_t9_10:Int) (j_t10_11:Int):Option ((Int×Int)⊕(Int)):=
 (if(decide (i_t9_10<j_t10_11))=true then
  (idx a0 (Ab (Int.fdiv (IntKind.u64.wrap (Ab (i_t9_10+j_t10_11))) (2 ^ (min ((1:Int)).toNat (IntKind.u64).bits))))).bind fun e15=>
  (D5 e15.Id a1).bind fun r16=>
  (if(decide (r16<0))=true then
   some (.inl ((Ab ((Ab (Int.fdiv (IntKind.u64.wrap (Ab (i_t9_10+j_t10_11))) (2 ^ (min ((1:Int)).toNat (IntKind.u64).bits))))+(1:Int))),j_t10_11))
  else
   some (.inl (i_t9_10,(Ab (Int.fdiv (IntKind.u64.wrap (Ab (i_t9_10+j_t10_11))) (2 ^ (min ((1:Int)).toNat (IntKind.u64).bits)))))))
 else
  some (.inr i_t9_10))
def AG (a0:List (Ao)) (a1:Int):Option (Int×Bool):=
 (iter (fun(v:Int×Int)=>Al a0 a1 v.1 v.2) FU ((0:Int),(a0.length:Int))).bind (fun o0=>AC a0 a1 o0)
def CX (a0:List (Ao)) (a1:Int) (r:Int×Bool):Prop:=Ah Tryz.prog I0 83 [vL Ac a0,vI a1, .c (.fn 84)] (· = .tup [vI r.1,vB r.2])
theorem CO {a0:List (Ao)} {a1:Int} {r:Int×Bool} (h:AG a0 a1=some r):CX a0 a1 r:=by
 refine Ah.bo Ag Tryz.func83 rfl Tryz.ntmps83 [.tmp 6, .tmp 7] fun _ _ _ _=>?_
 unfold AG at h
 refine Gg [.a,.a] (u [] []) (aN)<|Gg (nA 3) (u [] [(8,vI (a0.length:Int))]) (aN)<|Gg (nA 3) (u [] [(9,vI 0),(10,vI (a0.length:Int))]) (aN)<|Gj (X:=Int) (fun v=>(u [10] [(9,vI v)])) (fun v=>AC a0 a1 v=some r) ?_ ?_
 ·refine hB ?_
  obtain⟨n1,y0,h⟩:=bS h
  refine Gi (fun(v:Int×Int)=>(u [] [(9,vI v.1),(10,vI v.2)])) y0 (wT) ?_
  rintro⟨k0,j0⟩ j1 m0 z0
  replace m0:Al a0 a1 k0 j0=some j1:=m0
  unfold Al at m0
  refine hS<|Gg (nA 3) (u [] [(17,vB (decide (k0<j0)))]) (aN)<|iC m0 (fun m0=>?_) (fun m0=>?_)
  ·refine hK<|Tn<|hB<|Gg (nA 7) (u [17] [(11,vI (Ab (Int.fdiv (IntKind.u64.wrap (Ab (k0+j0))) (2 ^ (min ((1:Int)).toNat (IntKind.u64).bits)))))]) (aC (show 0≤(1:Int)from(by decide))<|aN)<|hS<|hO ?_
   obtain⟨p0,x0,m0⟩:=bS m0
   refine Gp 6 [.a,.a,.a,.a,(.v (vA Ac p0)),.a] (u [] [(24,.c (.fn 84)),(25,vL Ac a0),(26,vI (Ab (Int.fdiv (IntKind.u64.wrap (Ab (k0+j0))) (2 ^ (min ((1:Int)).toNat (IntKind.u64).bits))))),(27,vX Ac a0 ((Ab (Int.fdiv (IntKind.u64.wrap (Ab (k0+j0))) (2 ^ (min ((1:Int)).toNat (IntKind.u64).bits)))).toNat *19)),(28,vA Ac p0),(29,vI a1)]) (aC (Bm x0)<|aC (GN x0 GX 0 19 true (vA Ac p0))<|aC (Eq.refl (vA Ac p0))<|aN)<|rI rfl rfl<|Ei 30 [vA Ac p0,vI a1] [] Tryz.func84 Tryz.ntmps84 [.tmp 4] rfl rfl rfl rfl fun _ _ _ _=>Rg [.a,.a] (sg 9 [(1,vI a1),(2,vP [2,30] (0))] [bx [2,30] (Ac p0)] 49 [(0,vL Ac a0),(1,vI a1),(2,.c (.fn 84)),(8,vI (a0.length:Int)),(9,vI k0),(10,vI j0),(11,vI (Ab (Int.fdiv (IntKind.u64.wrap (Ab (k0+j0))) (2 ^ (min ((1:Int)).toNat (IntKind.u64).bits))))),(24,.c (.fn 84)),(25,vL Ac a0),(26,vI (Ab (Int.fdiv (IntKind.u64.wrap (Ab (k0+j0))) (2 ^ (min ((1:Int)).toNat (IntKind.u64).bits))))),(27,vX Ac a0 ((Ab (Int.fdiv (IntKind.u64.wrap (Ab (k0+j0))) (2 ^ (min ((1:Int)).toNat (IntKind.u64).bits)))).toNat *19)),(28,vA Ac p0),(29,vI a1)] [30]) (aN) ?_
   obtain⟨t0,i1,m0⟩:=bS m0
   refine Gg [.a,.a,.a,(.c (vI t0)),.a] (uo [1,2] [(4,vI t0)] []) (aC (Iu i1)<|aN)<|hR<|nR (vI t0)<|Gw [.a] (u [] [(31,vB (decide (t0<0)))]) (aN)<|Tn<|iC m0 (fun m0=>?_) (fun m0=>?_)
   ·refine Ge (nA 3) (u [] [(9,vI (Ab ((Ab (Int.fdiv (IntKind.u64.wrap (Ab (k0+j0))) (2 ^ (min ((1:Int)).toNat (IntKind.u64).bits))))+(1:Int)))),(32,vI (Ab (Int.fdiv (IntKind.u64.wrap (Ab (k0+j0))) (2 ^ (min ((1:Int)).toNat (IntKind.u64).bits))))),(33,vI (Ab ((Ab (Int.fdiv (IntKind.u64.wrap (Ab (k0+j0))) (2 ^ (min ((1:Int)).toNat (IntKind.u64).bits))))+(1:Int))))]) (aN)<|qN<|Tn ⟨((Ab ((Ab (Int.fdiv (IntKind.u64.wrap (Ab (k0+j0))) (2 ^ (min ((1:Int)).toNat (IntKind.u64).bits))))+(1:Int))),j0),(sI m0).symm,wT⟩
   refine Ge [.a,.a] (u [] [(10,vI (Ab (Int.fdiv (IntKind.u64.wrap (Ab (k0+j0))) (2 ^ (min ((1:Int)).toNat (IntKind.u64).bits))))),(34,vI (Ab (Int.fdiv (IntKind.u64.wrap (Ab (k0+j0))) (2 ^ (min ((1:Int)).toNat (IntKind.u64).bits)))))]) (aN)<|qN<|Tn ⟨(k0,(Ab (Int.fdiv (IntKind.u64.wrap (Ab (k0+j0))) (2 ^ (min ((1:Int)).toNat (IntKind.u64).bits))))),(sI m0).symm,wT⟩
  refine hE<|Te ?_
  obtain rfl:=z0 _ (sI m0).symm
  refine Te<|qX<|Tn ⟨k0,h,wT⟩
 rintro i0 n0
 replace n0:AC a0 a1 i0=some r:=n0
 unfold AC at n0
 refine hS<|hO ?_
 obtain⟨e3,d1,n0⟩:=bS n0
 refine Gp 11 [.a,.a,.a,.a,.a,.a,.a,.a,.a,(.v (vA Ac e3)),.a] (u [] [(35,vI i0),(36,vI i0),(37,vI (a0.length:Int)),(38,vB (decide (i0<(a0.length:Int)))),(39,vB (decide (i0<(a0.length:Int)))),(40,.g ((decide (i0<(a0.length:Int)))==true) (.c (.fn 84))),(41,.g ((decide (i0<(a0.length:Int)))==true) (vL Ac a0)),(42,.g ((decide (i0<(a0.length:Int)))==true) (vI i0)),(43,.g ((decide (i0<(a0.length:Int)))==true) (vX Ac a0 ((i0).toNat *19))),(44,.g ((decide (i0<(a0.length:Int)))==true) (vA Ac e3)),(45,.g ((decide (i0<(a0.length:Int)))==true) (vI a1))]) (aC (fun hg:((decide (i0<(a0.length:Int)))==true)=true=>aC (gi ((decide (i0<(a0.length:Int)))==true))<|aC (gi ((decide (i0<(a0.length:Int)))==true))<|aC (OW d1 hg).1<|aN)<|aC (fun hg:((decide (i0<(a0.length:Int)))==true)=true=>aC (gi ((decide (i0<(a0.length:Int)))==true))<|aC (GN (M8 d1 hg) GX 0 19 true (vA Ac e3))<|aC (Eq.refl (vA Ac e3))<|aN)<|aN)<|Ng (X:=Int) (g:=((decide (i0<(a0.length:Int)))==true)) (fun v=>(u [0,1,2,8,9,36,37,38,40,41,42,43,44,45] [(46,.g ((decide (i0<(a0.length:Int)))==true) (vI v))])) (fun v=>Aq a0 i0 v=some r) 46 rfl rfl rfl (fun o0=>?_) (fun o0=>?_) ?_
 ·replace n0:=iT n0 o0
  refine EB.ung (x:= .c (.fn 84)) 40 o0<|EB.ung (x:=vA Ac e3) 44 o0<|EB.ung (x:=vI a1) 45 o0<|Ei 46 [vA Ac e3,vI a1] [] Tryz.func84 Tryz.ntmps84 [.tmp 4] rfl rfl rfl rfl fun _ _ _ _=>Rg [.a,.a] (sg 9 [(1,vI a1),(2,vP [2,46] (0))] [bx [2,46] (Ac e3)] 49 [(0,vL Ac a0),(1,vI a1),(2,.c (.fn 84)),(8,vI (a0.length:Int)),(9,vI i0),(35,vI i0),(36,vI i0),(37,vI (a0.length:Int)),(38,vB (decide (i0<(a0.length:Int)))),(39,vB (decide (i0<(a0.length:Int)))),(40,.c (.fn 84)),(41,.g ((decide (i0<(a0.length:Int)))==true) (vL Ac a0)),(42,.g ((decide (i0<(a0.length:Int)))==true) (vI i0)),(43,.g ((decide (i0<(a0.length:Int)))==true) (vX Ac a0 ((i0).toNat *19))),(44,vA Ac e3),(45,vI a1)] [46]) (aN) ?_
  obtain⟨r7,m1,n0⟩:=bS n0
  refine Gg [.a,.a,.a,(.c (vI r7)),.a] (uo [1,2] [(4,vI r7)] []) (aC (Iu m1)<|aN)<|hR<|nR (vI r7) ⟨r7,n0,lT⟩
 ·replace n0:=iF n0 o0
  exact⟨0,vI 0,n0,lT⟩
 rintro q4 q0
 replace q0:Aq a0 i0 q4=some r:=q0
 unfold Aq at q0
 obtain⟨b6,k1,q0⟩:=bS q0
 exact Gw [.a,(.v (vB b6)),.a,.a] (u [] [(6,vI i0),(7,vB b6),(47,.g ((decide (i0<(a0.length:Int)))==true) (vB (q4==0))),(48,vB b6)]) (aG ((decide (i0<(a0.length:Int)))==true)<|aT (decide (i0<(a0.length:Int)))<|aB k1<|aN)<|Tn<|hR<|bQ (.tup [vI i0,vB b6]) (congrArg (fun(q:Int×Bool)=>(.tup [vI q.1,vB q.2]:V)) (sI q0))
def AF:Option (Bool):=
 some true
def A9 (a0:List (Aw)) (a1:List (Aw)) (vt17_4:Int):Option ((Int)⊕(Unit⊕Unit)):=
 (if(decide (vt17_4<(a0.length:Int)))=true then
  (idx a0 vt17_4).bind fun e7=>
  (idx a1 vt17_4).bind fun e8=>
  (some (if(e7.Op==e8.Op)=true then e7.Ref==e8.Ref else false)).bind fun b9=>
  (some (if b9=true then e7.Amount==e8.Amount else false)).bind fun b10=>
  (some (if b10=true then e7.Counter==e8.Counter else false)).bind fun b11=>
  (some (if b11=true then e7.Zone==e8.Zone else false)).bind fun b12=>
  (some (if b12=true then e7.Card==e8.Card else false)).bind fun b13=>
  (some (if b13=true then e7.Filter==e8.Filter else false)).bind fun b14=>
  (some (if b14=true then e7.Pool==e8.Pool else false)).bind fun b15=>
  (gd (b15==true) (Bd e7.Mods e8.Mods)).bind fun r16=>
  (some (if b15=true then r16 else false)).bind fun b17=>
  (if(!b17)=true then
   some (.inr (.inr ()))
  else
   some (.inl (Ab (vt17_4+1))))
 else
  some (.inr (.inl ())))
def AH (a0:List (Aw)) (a1:List (Aw)):Option (Bool):=
 (if((a0.length:Int) != (a1.length:Int))=true then
  some false
 else
  (iter (fun(v:Int)=>A9 a0 a1 v) FU (0:Int)).bind (Sum.elim (fun o0=>AF) (fun o1=>some false)))
def Cb (a0:List (Aw)) (a1:List (Aw)) (r:Bool):Prop:=Ah Tryz.prog I0 124 [vL Az a0,vL Az a1, .c (.fn 88)] (· =vB r)
theorem B7 {a0:List (Aw)} {a1:List (Aw)} {r:Bool} (h:AH a0 a1=some r):Cb a0 a1 r:=by
 refine Ah.bo Ag Tryz.func124 rfl Tryz.ntmps124 [.tmp 6] fun _ _ _ _=>?_
 unfold AH at h
 refine Gg [.a] (u [] []) (aN)<|hS<|Gg (nA 5) (u [] [(14,vB ((a0.length:Int) != (a1.length:Int)))]) (aN)<|iC h (fun h=>?_) (fun h=>?_)
 ·exact Rg [.a] (sl 32 [(6,vB false)] []) (aN)<|hR<|Tr<|bQ _ (kB h)
 refine hK<|Tn<|Sj (X:=Unit) (fun v=>(sl 32 [] [])) (fun v=>AF=some r) ?_ ?_
 ·refine Gg (nA 3) (u [0,14] [(15,vL Az a0),(16,vI (a0.length:Int)),(17,vI 0)]) (aN)<|hB ?_
  obtain⟨d2,q1,h⟩:=bS h
  refine Gi (fun(v:Int)=>(u [] [(17,vI v)])) q1 (wT) ?_
  rintro j0 z1 i0 y0
  replace i0:A9 a0 a1 j0=some z1:=i0
  unfold A9 at i0
  refine Gg [.a] (u [] [(18,vB (decide (j0<(a0.length:Int))))]) (aN)<|hS<|iC i0 (fun i0=>?_) (fun i0=>?_)
  ·refine hK<|Tn<|hS<|hB ?_
   obtain⟨e7,z0,i0⟩:=bS i0
   refine Gg [.a,.a,(.v (vA Az e7)),.a,.a,.a] (uo [18] [(7,vI j0),(8,vP [8] (0))] [.e (bx [8] (Az e7))]) (aC (Bm z0)<|aC (GN z0 Mp 0 64 true (vA Az e7))<|aC (Eq.refl (vA Az e7))<|aN) ?_
   obtain⟨e8,d1,i0⟩:=bS i0
   refine Gg [.a,.a,.a,(.v (vA Az e8)),.a,.a] (uo [7] [(9,vP [9] (0))] [.e (bx [9] (Az e8)),.k 0]) (aC (Bm d1)<|aC (GN d1 Mp 0 64 true (vA Az e8))<|aC (Eq.refl (vA Az e8))<|aN)<|hS<|hO<|Rp 3 (nA 3) (sl 32 [(1,vL Az a1),(2,.c (.fn 88)),(8,vP [8] (0)),(9,vP [9] (0)),(15,vL Az a0),(16,vI (a0.length:Int)),(17,vI j0),(26,.c (.fn 88)),(27,vA Az e7),(28,vA Az e8)] [bx [9] (Az e8),bx [8] (Az e7)]) (aN)<|rI rfl rfl<|Ei 29 [vA Az e7,vA Az e8] [] Tryz.func88 Tryz.ntmps88 [.tmp 4] rfl rfl rfl rfl fun _ _ _ _=>Gg (nA 3) (uo [0,1] [(2,vP [2,29] (0)),(3,vP [3,29] (0))] [.e (bx [3,29] (Az e8)),.e (bx [2,29] (Az e7)),.k 0,.k 1]) (aN) ?_
   obtain⟨b9,x1,n0,i1,o0,j1,p0,k1,i0⟩:=Ij i0
   obtain⟨k0,m1,m0,n1,q0,o1,y1,t1,i0⟩:=Ij i0
   obtain⟨t0,p1,i0⟩:=bS i0
   refine Gg [.a,.a,.a,.a,.a,.a,.a,.a,.a,.a,(.v (vB (e7.Ref==e8.Ref))),(.v (vB b9)),.a,.a,.a,.a,.a,(.v (vB (e7.Amount==e8.Amount))),(.v (vB n0)),.a,.a,.a,.a,.a,.a,(.v (vB o0)),.a,.a,.a,.a,.a,.a,(.v (vB p0)),.a,.a,.a,.a,.a,.a,(.v (vB k0)),.a,.a,.a,.a,.a,(.v (vB (e7.Filter==e8.Filter))),(.v (vB m0)),.a,.a,.a,.a,.a,(.v (vB (e7.Pool==e8.Pool))),(.v (vB q0)),.a,.a,.a,.a,.a,(.c (vB y1)),(.v (vB t0)),.a] (uo [2,3] [(4,vB t0)] [.k 2,.k 3]) (aG ((e7.Op==e8.Op)==true)<|aG ((e7.Op==e8.Op)==true)<|aC (fun hg:((e7.Op==e8.Op)==true)=true=>aC (gi ((e7.Op==e8.Op)==true))<|aC (gi ((e7.Op==e8.Op)==true))<|aC (congrArg (fun z=>V.c (.bool (z))) (fc e7.Ref e8.Ref))<|aN)<|aT (e7.Op==e8.Op)<|aB x1<|aG (b9==true)<|aG (b9==true)<|aC (fun hg:(b9==true)=true=>aC (gi (b9==true))<|aC (gi (b9==true))<|aC (congrArg (fun z=>V.c (.bool (z))) (aq e7.Amount e8.Amount))<|aN)<|aT b9<|aB i1<|aG (n0==true)<|aG (n0==true)<|aH (n0==true)<|aT n0<|aB j1<|aG (o0==true)<|aG (o0==true)<|aH (o0==true)<|aT o0<|aB k1<|aG (p0==true)<|aG (p0==true)<|aH (p0==true)<|aT p0<|aB m1<|aG (k0==true)<|aG (k0==true)<|aC (fun hg:(k0==true)=true=>aC (gi (k0==true))<|aC (gi (k0==true))<|aC (congrArg (fun z=>V.c (.bool (z))) (T8 e7.Filter e8.Filter))<|aN)<|aT k0<|aB n1<|aG (m0==true)<|aG (m0==true)<|aC (fun hg:(m0==true)=true=>aC (gi (m0==true))<|aC (gi (m0==true))<|aC (congrArg (fun z=>V.c (.bool (z))) (bR e7.Pool e8.Pool))<|aN)<|aT m0<|aB o1<|aG (q0==true)<|aG (q0==true)<|aC (c2 t1 B5)<|aT q0<|aB p1<|aN)<|hR<|nR (vB t0)<|Gw [.a] (u [] [(30,vB (!t0))]) (aN)<|Tn<|iC i0 (fun i0=>?_) (fun i0=>?_)
   ·refine Rg [.a] (sl 32 [(6,vB false)] []) (aN)<|hR<|qR<|Tr ?_
    obtain rfl:=y0 _ (sI i0).symm
    replace h:=EL h
    exact Tr<|qR<|Tr<|bQ _ (kB h)
   refine hK<|qN<|Tn<|Ge [.a,.a] (u [] [(17,vI (Ab (j0+1))),(31,vI (Ab (j0+1)))]) (aN)<|Tn ⟨(Ab (j0+1)),(sI i0).symm,wT⟩
  refine hE<|Te ?_
  obtain rfl:=y0 _ (sI i0).symm
  replace h:=Fa h
  refine Te<|qX<|Tn ⟨(),h,wT⟩
 rintro _ x0
 replace x0:AF=some r:=x0
 unfold AF at x0
 exact Rg [.a] (sl 32 [(6,vB true)] []) (aN)<|hR<|bQ _ (kB x0)
def CR (a0:Af):Option (Bool):=
 (BE a0.Zone (5:Int)).bind fun r1=>
 (gd ((!r1)==false) (BE a0.Who (2:Int))).bind fun r2=>
 (some (if(!r1)=true then true else !r2)).bind fun b3=>
 (gd (b3==false) (BE a0.Self (2:Int))).bind fun r4=>
 (some (if b3=true then true else !r4)).bind fun b5=>
 (gd (b5==false) (BE a0.Tap (2:Int))).bind fun r6=>
 (some (if b5=true then true else !r6)).bind fun b7=>
 (gd (b7==false) (BE a0.Keys (131071:Int))).bind fun r8=>
 (some (if b7=true then true else !r8)).bind fun b9=>
 (if b9=true then
  some false
 else
  (BE a0.Types (63:Int)).bind fun r11=>
  (gd ((!r11)==false) (BE a0.NotTypes (63:Int))).bind fun r12=>
  (some (if(!r11)=true then true else !r12)).bind fun b13=>
  (some (if b13=true then true else(Nc .i64 a0.Types a0.NotTypes) != (0:Int))).bind fun b14=>
  (if b14=true then
   some false
  else
   (BE a0.Colors (31:Int)).bind fun r16=>
   (gd ((!r16)==false) (BE a0.NotColors (31:Int))).bind fun r17=>
   (some (if(!r16)=true then true else !r17)).bind fun b18=>
   (some (if b18=true then true else(Nc .i64 a0.Colors a0.NotColors) != (0:Int))).bind fun b19=>
   (if b19=true then
    some false
   else
    (gd ((a0.Sub != ([]:List UInt8))==true) (Ji a0.Sub)).bind fun r21=>
    (some (if(a0.Sub != ([]:List UInt8))=true then !r21 else false)).bind fun b22=>
    (if b22=true then
     some false
    else
     (EG a0.Power).bind fun r24=>
     (gd (r24==true) (EG a0.Tough)).bind fun r25=>
     (some (if r24=true then r25 else false)).bind fun b26=>
     (gd (b26==true) (EG a0.Value)).bind fun r27=>
     (some (if b26=true then r27 else false)).bind fun b28=>
     some b28))))
def Zc (a0:Af) (r:Bool):Prop:=Ah Tryz.prog I0 90 [vA A7 a0] (· =vB r)
theorem Em {a0:Af} {r:Bool} (h:CR a0=some r):Zc a0 r:=by
 refine Ah.bo Ag Tryz.func90 rfl Tryz.ntmps90 [.tmp 2] fun _ _ _ _=>?_
 unfold CR at h
 refine Rg [.a,.a] (sl 89 [(1,vP [1] (0))] [bx [1] (A7 a0)]) (aN)<|hS ?_
 obtain⟨r1,m2,r2,n2,b3,d2,r4,o2,h⟩:=Ij h
 obtain⟨b5,i2,r6,p2,b7,j2,r8,q2,h⟩:=Ij h
 obtain⟨b9,k2,h⟩:=bS h
 refine Gg [.a,.a,(.c (vB r1)),.a,.a,.a,.a,(.c (vB r2)),.a,(.v (vB b3)),.a,.a,.a,(.c (vB r4)),.a,(.v (vB b5)),.a,.a,.a,(.c (vB r6)),.a,(.v (vB b7)),.a,.a,.a,(.c (vB r8)),.a,(.v (vB b9))] (u [] [(30,vB b9)]) (aC (BI m2)<|aG ((!r1)==false)<|aC (c1 n2 BI)<|aG ((!r1)==false)<|aF (!r1)<|aB d2<|aG (b3==false)<|aC (c1 o2 BI)<|aG (b3==false)<|aF b3<|aB i2<|aG (b5==false)<|aC (c1 p2 BI)<|aG (b5==false)<|aF b5<|aB j2<|aG (b7==false)<|aC (c1 q2 BI)<|aG (b7==false)<|aF b7<|aB k2<|aN)<|iC h (fun h=>?_) (fun h=>?_)
 ·exact Rg [.a] (sl 89 [(2,vB false)] []) (aN)<|hR<|Tr<|bQ _ (kB h)
 refine hK<|Tn<|hS ?_
 obtain⟨k0,n1,t2,o1,i0,y0,p0,z0,h⟩:=Ij h
 refine Gg [.a,.a,(.c (vB k0)),.a,.a,.a,.a,(.c (vB t2)),.a,(.v (vB i0)),.a,.a,.a,.a,.a,.a,.a,(.v (vB p0))] (u [30] [(48,vB p0)]) (aC (BI n1)<|aG ((!k0)==false)<|aC (c1 o1 BI)<|aG ((!k0)==false)<|aF (!k0)<|aB y0<|aG (i0==false)<|aG (i0==false)<|aH (i0==false)<|aG (i0==false)<|aF i0<|aB z0<|aN)<|iC h (fun h=>?_) (fun h=>?_)
 ·exact Rg [.a] (sl 89 [(2,vB false)] []) (aN)<|hR<|Tr<|bQ _ (kB h)
 refine hK<|Tn<|hS ?_
 obtain⟨m0,p1,x2,q1,j0,d1,q0,i1,h⟩:=Ij h
 refine Gg [.a,.a,(.c (vB m0)),.a,.a,.a,.a,(.c (vB x2)),.a,(.v (vB j0)),.a,.a,.a,.a,.a,.a,.a,(.v (vB q0))] (u [48] [(66,vB q0)]) (aC (BI p1)<|aG ((!m0)==false)<|aC (c1 q1 BI)<|aG ((!m0)==false)<|aF (!m0)<|aB d1<|aG (j0==false)<|aG (j0==false)<|aH (j0==false)<|aG (j0==false)<|aF j0<|aB i1<|aN)<|iC h (fun h=>?_) (fun h=>?_)
 ·exact Rg [.a] (sl 89 [(2,vB false)] []) (aN)<|hR<|Tr<|bQ _ (kB h)
 refine hK<|Tn<|hS ?_
 obtain⟨y2,t1,t0,j1,h⟩:=JX h
 refine Gg [.a,.a,.a,.a,.a,.a,(.c (vB y2)),.a,(.v (vB t0))] (u [66] [(75,vB t0)]) (aG ((a0.Sub != ([]:List UInt8))==true)<|aC (c1 t1 OF)<|aG ((a0.Sub != ([]:List UInt8))==true)<|aT (a0.Sub != ([]:List UInt8))<|aB j1<|aN)<|iC h (fun h=>?_) (fun h=>?_)
 ·exact Rg [.a] (sl 89 [(2,vB false)] []) (aN)<|hR<|Tr<|bQ _ (kB h)
 refine hK<|Tn ?_
 obtain⟨o0,x1,z2,y1,n0,k1,d3,z1,h⟩:=Ij h
 obtain⟨x0,m1,h⟩:=bS h
 exact Rg [.a,.a,(.c (vB o0)),.a,.a,.a,(.c (vB z2)),(.v (vB n0)),.a,.a,.a,(.c (vB d3)),(.v (vB x0)),.a] (sl 89 [(2,vB x0)] []) (aC (IV x1)<|aG (o0==true)<|aC (c1 y1 IV)<|aT o0<|aB k1<|aG (n0==true)<|aC (c1 z1 IV)<|aT n0<|aB m1<|aN)<|hR<|bQ _ (kB h)
def Dp (a0:Int):Option ((List UInt8)):=
 (some (if(decide (a0<1))=true then true else decide (63<a0))).bind fun b1=>
 (if b1=true then
  some ([]:List UInt8)
 else
  (Fd a0).bind fun r3=>
  (PK r3 Lg).bind fun r4=>
  some r4)
def Q8 (a0:Int) (r:(List UInt8)):Prop:=Ah Tryz.prog I0 142 [vI a0] (· =vS r)
theorem GL {a0:Int} {r:(List UInt8)} (h:Dp a0=some r):Q8 a0 r:=by
 refine Ah.bo Ag Tryz.func142 rfl Tryz.ntmps142 [.tmp 2] fun _ _ _ _=>?_
 unfold Dp at h
 refine Gg [.a] (u [] []) (aN)<|hS ?_
 obtain⟨b1,i0,h⟩:=bS h
 refine Gg [.a,.a,.a,.a,.a,(.v (vB b1))] (u [] [(8,vB b1)]) (aG ((decide (a0<1))==false)<|aF (decide (a0<1))<|aB i0<|aN)<|iC h (fun h=>?_) (fun h=>?_)
 ·exact Rg [.a] (sl 12 [(2,vS ([]:List UInt8))] []) (aN)<|hR<|Tr<|bQ _ (congrArg vS (sI h))
 refine hK<|Tn ?_
 obtain⟨r3,j0,r4,k0,h⟩:=JX h
 exact Rg [.a,(.c (vL eS r3)),(.c (vS r4)),.a] (sl 12 [(2,vS r4)] []) (aC (Ke j0)<|aC (Xj k0)<|aN)<|hR<|bQ _ (congrArg vS (sI h))
def Ga (l3_3:List (List UInt8)):Option ((List UInt8)):=
 (if((l3_3.length:Int)==0)=true then
  some LY
 else
  (Hn l3_3 Lg).bind fun r6=>
  some r6)
def Es (r7:(List (Int))) (vt12_10:Int) (l3_11:List (List UInt8)):Option ((Int×(List (List UInt8)))⊕((List (List UInt8)))):=
 (if(decide (vt12_10<(r7.length:Int)))=true then
  (idx r7 vt12_10).bind fun e15=>
  (Kf e15).bind fun r16=>
  (app 16 l3_11 ([r16]:List (List UInt8))).bind fun l17=>
  some (.inl ((Ab (vt12_10+1)),l17))
 else
  some (.inr l3_11))
def Hw (a0:Int):Option ((List UInt8)):=
 (KX a0).bind fun r1=>
 (if(!r1)=true then
  some ([]:List UInt8)
 else
  (G3 a0).bind fun r7=>
  (iter (fun(v:Int×(List (List UInt8)))=>Es r7 v.1 v.2) FU ((0:Int),([]:List (List UInt8)))).bind (fun o0=>Ga o0))
def Uv (a0:Int) (r:(List UInt8)):Prop:=Ah Tryz.prog I0 144 [vI a0] (· =vS r)
theorem M6 {a0:Int} {r:(List UInt8)} (h:Hw a0=some r):Uv a0 r:=by
 refine Ah.bo Ag Tryz.func144 rfl Tryz.ntmps144 [.tmp 2] fun _ _ _ _=>?_
 unfold Hw at h
 refine Gg [.a] (u [] []) (aN)<|hS ?_
 obtain⟨r1,j1,h⟩:=bS h
 refine Gg [.a,(.c (vB r1)),.a] (u [] [(8,vB (!r1))]) (aC (Vp j1)<|aN)<|iC h (fun h=>?_) (fun h=>?_)
 ·exact Rg [.a] (sl 27 [(2,vS ([]:List UInt8))] []) (aN)<|hR<|Tr<|bQ _ (congrArg vS (sI h))
 refine hK<|Tn<|Gg [.a] (uo [8] [(3,vO [3])] [.e (Bl [3] 9 1 eS ([]:List (List UInt8)))]) (aN)<|Sj (X:=(List (List UInt8))) (fun v=>(sl 27 [(3,vO [3])] [Bl [3] 9 1 eS v])) (fun v=>Ga v=some r) ?_ ?_
 ·obtain⟨r7,m1,h⟩:=bS h
  refine Gg [.a,(.c (vL (eI .i64) r7)),.a,.a] (u [0] [(10,vL (eI .i64) r7),(11,vI (r7.length:Int)),(12,vI 0)]) (aC (G4 m1)<|aN)<|hB ?_
  obtain⟨n1,y0,h⟩:=bS h
  refine Gi (fun(v:Int×(List (List UInt8)))=>(uo [] [(12,vI v.1)] [.e (Bl [3] 9 1 eS v.2)])) y0 (wT) ?_
  rintro⟨j0,p0⟩ i1 i0 z0
  replace i0:Es r7 j0 p0=some i1:=i0
  unfold Es at i0
  refine Gg [.a] (u [] [(13,vB (decide (j0<(r7.length:Int))))]) (aN)<|hS<|iC i0 (fun i0=>?_) (fun i0=>?_)
  ·refine hK<|Tn<|hS<|hB ?_
   obtain⟨m0,q0,i0⟩:=bS i0
   refine Gg [.a,(.v (vI m0)),.a] (u [13] [(5,vI m0)]) (aC (Bm q0)<|aC (GN q0 (I1 .i64) 0 1 false (vI m0))<|aC (Eq.refl (vI m0))<|aN) ?_
   obtain⟨o0,d1,n0,t0,i0⟩:=JX i0
   refine Re [.a,.a,(.c (vS o0)),.a,(.e n0.length (n0.flatMap (eS))),.a] (sl 27 [(3,vO [3]),(5,vI m0),(10,vL (eI .i64) r7),(11,vI (r7.length:Int)),(12,vI j0),(17,vI m0),(18,vS o0),(19,vO [19]),(20,vO [3])] [Bl [3] 9 1 eS n0,Bl [19] 9 1 eS ([o0]:List (List UInt8))]) (aC (Sh d1)<|aC (M4 t0 eS)<|aC (Du t0)<|aN)<|qN<|Tn<|Re [.a,.a] (sl 27 [(3,vO [3]),(5,vI m0),(10,vL (eI .i64) r7),(11,vI (r7.length:Int)),(12,vI (Ab (j0+1))),(17,vI m0),(18,vS o0),(19,vO [19]),(20,vO [3]),(21,vI (Ab (j0+1)))] [Bl [3] 9 1 eS n0,Bl [19] 9 1 eS ([o0]:List (List UInt8))]) (aN)<|Tn ⟨((Ab (j0+1)),n0),(sI i0).symm,wT⟩
  refine hE<|Te ?_
  obtain rfl:=z0 _ (sI i0).symm
  refine Te<|qX<|Tn ⟨p0,h,wT⟩
 rintro x0 k0
 replace k0:Ga x0=some r:=k0
 unfold Ga at k0
 refine hS<|Gg (nA 3) (u [] [(24,vB ((x0.length:Int)==0))]) (aN)<|iC k0 (fun k0=>?_) (fun k0=>?_)
 ·exact Rg [.a] (sl 27 [(2,vS LY)] []) (aN)<|hR<|Tr<|bQ _ (congrArg vS (sI k0))
 refine hK<|Tn ?_
 obtain⟨r6,k1,k0⟩:=bS k0
 exact Rg [.a,(.c (vS r6)),.a] (sl 27 [(2,vS r6)] []) (aC (My k1)<|aN)<|hR<|bQ _ (congrArg vS (sI k0))
def GA (a0:A6 (Int)):Option ((List UInt8)):=
 (Od a0).bind fun r1=>
 (Kv r1).bind fun r2=>
 some r2
def Sl (a0:A6 (Int)) (r:(List UInt8)):Prop:=Ah Tryz.prog I0 183 [vA (T6 (eI .i64)) a0] (· =vS r)
theorem Q9 {a0:A6 (Int)} {r:(List UInt8)} (h:GA a0=some r):Sl a0 r:=by
 refine Ah.bo Ag Tryz.func183 rfl Tryz.ntmps183 [.tmp 2] fun _ _ _ _=>?_
 unfold GA at h
 refine Rg [.a,.a] (sl 6 [(1,vP [1] (0))] [bx [1] (T6 (eI .i64) a0)]) (aN) ?_
 obtain⟨r1,i0,r2,j0,h⟩:=JX h
 exact Rg [.a,(.c (vA Fj r1)),(.c (vS r2)),.a] (sl 6 [(2,vS r2)] []) (aC (Xt i0)<|aC (Qa j0)<|aN)<|hR<|bQ _ (congrArg vS (sI h))
def Cj (l_t3_14:List (List UInt8)):Option ((List UInt8)):=
 (Hn l_t3_14 Fm).bind fun r16=>
 (cat bX r16).bind fun s17=>
 (cat s17 bY).bind fun s18=>
 some s18
def Ck (l3_12:List (List UInt8)):Option ((List UInt8)):=
 (if((l3_12.length:Int)==0)=true then
  Cj ([P0]:List (List UInt8))
 else
  Cj l3_12)
def CS (a0:CG) (l3_10:List (List UInt8)):Option ((List UInt8)):=
 (if(a0.Life != 0)=true then
  (EE a0.Life).bind fun r21=>
  (cat Ws r21).bind fun s22=>
  (app 16 l3_10 ([s22]:List (List UInt8))).bind fun l23=>
  Ck l23
 else
  Ck l3_10)
def C9 (a0:CG) (l3_8:List (List UInt8)):Option ((List UInt8)):=
 (if a0.Sacrifice=true then
  (app 16 l3_8 ([Gu]:List (List UInt8))).bind fun l25=>
  CS a0 l25
 else
  CS a0 l3_8)
def Ct (a0:CG) (l3_6:List (List UInt8)):Option ((List UInt8)):=
 (if a0.Tap=true then
  (app 16 l3_6 ([N9]:List (List UInt8))).bind fun l27=>
  C9 a0 l27
 else
  C9 a0 l3_6)
def D3 (a0:CG):Option ((List UInt8)):=
 (Oe a0.Mana).bind fun r1=>
 (some (if(!r1)=true then true else a0.Mana.X != 0)).bind fun b2=>
 (some (if b2=true then true else decide (a0.Life<0))).bind fun b3=>
 (some (if b3=true then true else decide (99<a0.Life))).bind fun b4=>
 (if b4=true then
  some ([]:List UInt8)
 else
  (if(!(a0.Mana==(⟨0,0,(⟨0,0,0,0,0⟩:A5 (Int))⟩:A1)))=true then
   (Kv a0.Mana).bind fun r29=>
   (app 16 ([]:List (List UInt8)) ([r29]:List (List UInt8))).bind fun l30=>
   Ct a0 l30
  else
   Ct a0 ([]:List (List UInt8))))
def Oq (a0:CG) (r:(List UInt8)):Prop:=Ah Tryz.prog I0 94 [vA I8 a0] (· =vS r)
theorem NK {a0:CG} {r:(List UInt8)} (h:D3 a0=some r):Oq a0 r:=by
 refine Ah.bo Ag Tryz.func94 rfl Tryz.ntmps94 [.tmp 2] fun _ _ _ _=>?_
 unfold D3 at h
 refine Rg [.a,.a] (sl 62 [(1,vP [1] (0))] [bx [1] (I8 a0)]) (aN)<|hS ?_
 obtain⟨r1,o2,b2,k2,b3,m2,b4,n2,h⟩:=Ij h
 refine Gg [.a,.a,(.c (vB r1)),.a,.a,.a,.a,.a,.a,(.v (vB b2)),.a,.a,.a,.a,(.v (vB b3)),.a,.a,.a,.a,(.v (vB b4))] (u [] [(23,vB b4)]) (aC (Um o2)<|aG ((!r1)==false)<|aG ((!r1)==false)<|aG ((!r1)==false)<|aF (!r1)<|aB k2<|aG (b2==false)<|aG (b2==false)<|aF b2<|aB m2<|aG (b3==false)<|aG (b3==false)<|aF b3<|aB n2<|aN)<|iC h (fun h=>?_) (fun h=>?_)
 ·exact Rg [.a] (sl 62 [(2,vS ([]:List UInt8))] []) (aN)<|hR<|Tr<|bQ _ (congrArg vS (sI h))
 refine hK<|Tn<|Gg [.a] (uo [23] [(3,vO [3])] [.e (Bl [3] 9 1 eS ([]:List (List UInt8))),.k 0]) (aN)<|Gj (X:=(List (List UInt8))) (fun v=>(uo [] [] [.e (Bl [3] 9 1 eS v),.k 1])) (fun v=>Ct a0 v=some r) ?_ ?_
 ·refine Gg [.a,.a,.a,(.v (vB (!(a0.Mana==(⟨0,0,(⟨0,0,0,0,0⟩:A5 (Int))⟩:A1)))))] (u [] [(27,vB (!(a0.Mana==(⟨0,0,(⟨0,0,0,0,0⟩:A5 (Int))⟩:A1))))]) (aC (And.intro trivial fi)<|aC (congrArg (fun z=>V.c (.bool (!z))) (jw a0.Mana (⟨0,0,(⟨0,0,0,0,0⟩:A5 (Int))⟩:A1)))<|aN)<|iC h (fun h=>?_) (fun h=>?_)
  ·obtain⟨t1,j2,x0,k1,h⟩:=JX h
   refine Ge [.a,.a,.a,(.c (vS t1)),.a,(.e x0.length (x0.flatMap (eS))),.a] (uo [] [(29,vP [1] (0)),(30,vA Fj a0.Mana),(31,vS t1),(32,vO [32]),(33,vO [3])] [.e (Bl [3] 9 1 eS x0),.e (Bl [32] 9 1 eS ([t1]:List (List UInt8))),.k 1]) (aC (Qa j2)<|aC (M4 k1 eS)<|aC (Du k1)<|aN)<|Tn ⟨x0,h,wT⟩
  refine hK<|Tn ⟨([]:List (List UInt8)),h,wT⟩
 rintro p1 k0
 replace k0:Ct a0 p1=some r:=k0
 unfold Ct at k0
 refine Gj (X:=(List (List UInt8))) (fun v=>(uo [] [] [.e (Bl [3] 9 1 eS v),.k 1])) (fun v=>C9 a0 v=some r) ?_ ?_
 ·refine Gg [.a,.a] (u [] [(35,vB a0.Tap)]) (aN)<|iC k0 (fun k0=>?_) (fun k0=>?_)
  ·obtain⟨t0,j1,k0⟩:=bS k0
   refine Ge [.a,.a,(.e t0.length (t0.flatMap (eS))),.a] (uo [] [(37,vO [37]),(38,vO [3])] [.e (Bl [3] 9 1 eS t0),.e (Bl [37] 9 1 eS ([N9]:List (List UInt8))),.k 1]) (aC (M4 j1 eS)<|aC (Du j1)<|aN)<|Tn ⟨t0,k0,wT⟩
  refine hK<|Tn ⟨p1,k0,wT⟩
 rintro q1 m0
 replace m0:C9 a0 q1=some r:=m0
 unfold C9 at m0
 refine Gj (X:=(List (List UInt8))) (fun v=>(uo [] [] [.e (Bl [3] 9 1 eS v),.k 1])) (fun v=>CS a0 v=some r) ?_ ?_
 ·refine Gg [.a,.a] (u [] [(40,vB a0.Sacrifice)]) (aN)<|iC m0 (fun m0=>?_) (fun m0=>?_)
  ·obtain⟨q0,i1,m0⟩:=bS m0
   refine Ge [.a,.a,(.e q0.length (q0.flatMap (eS))),.a] (uo [] [(42,vO [42]),(43,vO [3])] [.e (Bl [3] 9 1 eS q0),.e (Bl [42] 9 1 eS ([Gu]:List (List UInt8))),.k 1]) (aC (M4 i1 eS)<|aC (Du i1)<|aN)<|Tn ⟨q0,m0,wT⟩
  refine hK<|Tn ⟨q1,m0,wT⟩
 rintro y0 i0
 replace i0:CS a0 y0=some r:=i0
 unfold CS at i0
 refine Sj (X:=(List (List UInt8))) (fun v=>(sl 62 [(3,vO [3])] [Bl [3] 9 1 eS v])) (fun v=>Ck v=some r) ?_ ?_
 ·refine Gg (nA 3) (u [] [(46,vB (a0.Life != 0))]) (aN)<|iC i0 (fun i0=>?_) (fun i0=>?_)
  ·obtain⟨y1,i2,x1,o1,p0,d1,i0⟩:=M9 i0
   refine Ge [.a,.a,.a,(.c (vS y1)),(.v (vS x1)),.a,(.e p0.length (p0.flatMap (eS))),.a] (uo [] [(48,vP [1] (9)),(49,vI a0.Life),(50,vS y1),(51,vS x1),(52,vO [52]),(53,vO [3])] [.e (Bl [3] 9 1 eS p0),.e (Bl [52] 9 1 eS ([x1]:List (List UInt8))),.k 1]) (aC (G5 i2)<|aC (DB o1)<|aC (congrArg (fun z=>V.c (.str z)) (DC o1).symm)<|aC (M4 d1 eS)<|aC (Du d1)<|aN)<|Tn ⟨p0,i0,wT⟩
  refine hK<|Tn ⟨y0,i0,wT⟩
 rintro o0 j0
 replace j0:Ck o0=some r:=j0
 unfold Ck at j0
 refine Sj (X:=(List (List UInt8))) (fun v=>(sl 62 [(3,vL eS v)] [])) (fun v=>Cj v=some r) ?_ ?_
 ·refine Gg (nA 3) (u [] [(56,vB ((o0.length:Int)==0))]) (aN)<|iC j0 (fun j0=>?_) (fun j0=>?_)
  ·refine Ge [.a,.a] (uo [] [(3,vO [57]),(57,vO [57])] [.e (Bl [57] 9 1 eS ([P0]:List (List UInt8))),.k 0]) (aN)<|Tn ⟨([P0]:List (List UInt8)),j0,(wF [[57]])⟩
  refine hK<|Tn ⟨o0,j0,(wF [[3]])⟩
 rintro z0 n0
 replace n0:Cj z0=some r:=n0
 unfold Cj at n0
 obtain⟨p2,d2,q2,m1,z1,n1,n0⟩:=M9 n0
 exact Rg [.a,(.c (vS p2)),(.v (vS q2)),(.v (vS z1)),.a] (sl 62 [(2,vS z1)] []) (aC (My d2)<|aC (DB m1)<|aC (congrArg (fun z=>V.c (.str z)) (DC m1).symm)<|aC (DB n1)<|aC (congrArg (fun z=>V.c (.str z)) (DC n1).symm)<|aN)<|hR<|bQ _ (congrArg vS (sI n0))
def Cu (a0:List (Au)) (a1:List (Au)):Option (Bool):=
 (Ba a0 a1).bind fun r1=>
 some r1
def GH (a0:List (Au)) (a1:List (Au)) (r:Bool):Prop:=Ah Tryz.prog I0 27 [vL Ad a0,vL Ad a1, .c (.fn 28)] (· =vB r)
theorem Gb {a0:List (Au)} {a1:List (Au)} {r:Bool} (h:Cu a0 a1=some r):GH a0 a1 r:=by
 refine Ah.bo Ag Tryz.func27 rfl Tryz.ntmps27 [.tmp 6] fun _ _ _ _=>?_
 unfold Cu at h
 refine Gg [.a] (u [] []) (aN) ?_
 obtain⟨r1,i0,h⟩:=bS h
 exact Rg [.a,.a,.a,(.c (vB r1)),.a] (sl 11 [(6,vB r1)] []) (aC (B6 i0)<|aN)<|hR<|bQ _ (kB h)
def AP:Option (Bool):=
 some true
def Bh (a0:List (Ci)) (a1:List (Ci)) (vt17_4:Int):Option ((Int)⊕(Unit⊕Unit)):=
 (if(decide (vt17_4<(a0.length:Int)))=true then
  (idx a0 vt17_4).bind fun e7=>
  (idx a1 vt17_4).bind fun e8=>
  (some (if(e7.Stamp==e8.Stamp)=true then e7.Control==e8.Control else false)).bind fun b9=>
  (some (if b9=true then e7.Source==e8.Source else false)).bind fun b10=>
  (some (if b10=true then e7.Until==e8.Until else false)).bind fun b11=>
  (gd (b11==true) (BJ e7.Objects e8.Objects)).bind fun r12=>
  (some (if b11=true then r12 else false)).bind fun b13=>
  (gd (b13==true) (Bd e7.Mods e8.Mods)).bind fun r14=>
  (some (if b13=true then r14 else false)).bind fun b15=>
  (if(!b15)=true then
   some (.inr (.inr ()))
  else
   some (.inl (Ab (vt17_4+1))))
 else
  some (.inr (.inl ())))
def Bn (a0:List (Ci)) (a1:List (Ci)):Option (Bool):=
 (if((a0.length:Int) != (a1.length:Int))=true then
  some false
 else
  (iter (fun(v:Int)=>Bh a0 a1 v) FU (0:Int)).bind (Sum.elim (fun o0=>AP) (fun o1=>some false)))
def CP (a0:List (Ci)) (a1:List (Ci)) (r:Bool):Prop:=Ah Tryz.prog I0 64 [vL Ar a0,vL Ar a1, .c (.fn 37)] (· =vB r)
theorem CJ {a0:List (Ci)} {a1:List (Ci)} {r:Bool} (h:Bn a0 a1=some r):CP a0 a1 r:=by
 refine Ah.bo Ag Tryz.func64 rfl Tryz.ntmps64 [.tmp 6] fun _ _ _ _=>?_
 unfold Bn at h
 refine Gg [.a] (u [] []) (aN)<|hS<|Gg (nA 5) (u [] [(14,vB ((a0.length:Int) != (a1.length:Int)))]) (aN)<|iC h (fun h=>?_) (fun h=>?_)
 ·exact Rg [.a] (sl 32 [(6,vB false)] []) (aN)<|hR<|Tr<|bQ _ (kB h)
 refine hK<|Tn<|Sj (X:=Unit) (fun v=>(sl 32 [] [])) (fun v=>AP=some r) ?_ ?_
 ·refine Gg (nA 3) (u [0,14] [(15,vL Ar a0),(16,vI (a0.length:Int)),(17,vI 0)]) (aN)<|hB ?_
  obtain⟨t1,j1,h⟩:=bS h
  refine Gi (fun(v:Int)=>(u [] [(17,vI v)])) j1 (wT) ?_
  rintro j0 q1 i0 q0
  replace i0:Bh a0 a1 j0=some q1:=i0
  unfold Bh at i0
  refine Gg [.a] (u [] [(18,vB (decide (j0<(a0.length:Int))))]) (aN)<|hS<|iC i0 (fun i0=>?_) (fun i0=>?_)
  ·refine hK<|Tn<|hS<|hB ?_
   obtain⟨e7,t0,i0⟩:=bS i0
   refine Gg [.a,.a,(.v (vA Ar e7)),.a,.a,.a] (uo [18] [(7,vI j0),(8,vP [8] (0))] [.e (bx [8] (Ar e7))]) (aC (Bm t0)<|aC (GN t0 JF 0 6 true (vA Ar e7))<|aC (Eq.refl (vA Ar e7))<|aN) ?_
   obtain⟨e8,x0,i0⟩:=bS i0
   refine Gg [.a,.a,.a,(.v (vA Ar e8)),.a,.a] (uo [7] [(9,vP [9] (0))] [.e (bx [9] (Ar e8)),.k 0]) (aC (Bm x0)<|aC (GN x0 JF 0 6 true (vA Ar e8))<|aC (Eq.refl (vA Ar e8))<|aN)<|hS<|hO<|Rp 3 (nA 3) (sl 32 [(1,vL Ar a1),(2,.c (.fn 37)),(8,vP [8] (0)),(9,vP [9] (0)),(15,vL Ar a0),(16,vI (a0.length:Int)),(17,vI j0),(26,.c (.fn 37)),(27,vA Ar e7),(28,vA Ar e8)] [bx [9] (Ar e8),bx [8] (Ar e7)]) (aN)<|rI rfl rfl<|Ei 29 [vA Ar e7,vA Ar e8] [] Tryz.func37 Tryz.ntmps37 [.tmp 4] rfl rfl rfl rfl fun _ _ _ _=>Gg (nA 3) (uo [0,1] [(2,vP [2,29] (0)),(3,vP [3,29] (0))] [.e (bx [3,29] (Ar e8)),.e (bx [2,29] (Ar e7)),.k 0,.k 1]) (aN) ?_
   obtain⟨b9,n1,k0,y0,m0,z0,o1,k1,i0⟩:=Ij i0
   obtain⟨n0,d1,p1,m1,o0,i1,i0⟩:=M9 i0
   refine Gg [.a,.a,.a,.a,.a,.a,.a,.a,.a,.a,.a,(.v (vB b9)),.a,.a,.a,.a,.a,.a,(.v (vB k0)),.a,.a,.a,.a,.a,.a,(.v (vB m0)),.a,.a,.a,.a,.a,(.c (vB o1)),(.v (vB n0)),.a,.a,.a,.a,.a,(.c (vB p1)),(.v (vB o0)),.a] (uo [2,3] [(4,vB o0)] [.k 2,.k 3]) (aG ((e7.Stamp==e8.Stamp)==true)<|aG ((e7.Stamp==e8.Stamp)==true)<|aH ((e7.Stamp==e8.Stamp)==true)<|aT (e7.Stamp==e8.Stamp)<|aB n1<|aG (b9==true)<|aG (b9==true)<|aH (b9==true)<|aT b9<|aB y0<|aG (k0==true)<|aG (k0==true)<|aH (k0==true)<|aT k0<|aB z0<|aG (m0==true)<|aG (m0==true)<|aC (c2 k1 BO)<|aT m0<|aB d1<|aG (n0==true)<|aG (n0==true)<|aC (c2 m1 B5)<|aT n0<|aB i1<|aN)<|hR<|nR (vB o0)<|Gw [.a] (u [] [(30,vB (!o0))]) (aN)<|Tn<|iC i0 (fun i0=>?_) (fun i0=>?_)
   ·refine Rg [.a] (sl 32 [(6,vB false)] []) (aN)<|hR<|qR<|Tr ?_
    obtain rfl:=q0 _ (sI i0).symm
    replace h:=EL h
    exact Tr<|qR<|Tr<|bQ _ (kB h)
   refine hK<|qN<|Tn<|Ge [.a,.a] (u [] [(17,vI (Ab (j0+1))),(31,vI (Ab (j0+1)))]) (aN)<|Tn ⟨(Ab (j0+1)),(sI i0).symm,wT⟩
  refine hE<|Te ?_
  obtain rfl:=q0 _ (sI i0).symm
  replace h:=Fa h
  refine Te<|qX<|Tn ⟨(),h,wT⟩
 rintro _ p0
 replace p0:AP=some r:=p0
 unfold AP at p0
 exact Rg [.a] (sl 32 [(6,vB true)] []) (aN)<|hR<|bQ _ (kB p0)
def Ih (l5_3:List (Int)) (l6_4:List (Int)):Option ((List (Int))):=
 (app 8 l6_4 l5_3).bind fun l6=>
 some l6
def Et (vt21_11:Int) (l5_18:List (Int)) (l6_19:List (Int)):Option ((Int×(List (Int))×(List (Int)))⊕(((List (Int))×(List (Int))))):=
 some (.inl ((Ab (vt21_11+1)),l5_18,l6_19))
def Jk (p_t1_1:Int) (r7:(List (Int))) (vt21_11:Int) (l5_12:List (Int)) (l6_13:List (Int)):Option ((Int×(List (Int))×(List (Int)))⊕(((List (Int))×(List (Int))))):=
 (if(decide (vt21_11<(r7.length:Int)))=true then
  (idx r7 vt21_11).bind fun e21=>
  (D5 e21 p_t1_1).bind fun r22=>
  (if(r22==(-1:Int))=true then
   (app 8 l5_12 ([e21]:List (Int))).bind fun l24=>
   Et vt21_11 l24 l6_13
  else
   (if(r22==1)=true then
    (app 8 l6_13 ([e21]:List (Int))).bind fun l26=>
    Et vt21_11 l5_12 l26
   else
    Et vt21_11 l5_12 l6_13))
 else
  some (.inr (l5_12,l6_13)))
def Gc (a0:Aj) (p_t1_1:Int):Option ((List (Int))):=
 (MA a0).bind fun r7=>
 (iter (fun(v:Int×(List (Int))×(List (Int)))=>Jk p_t1_1 r7 v.1 v.2.1 v.2.2) FU ((0:Int),([]:List (Int)),([]:List (Int)))).bind (fun o0=>Ih o0.1 o0.2)
def MG (a0:Aj) (a1:Int):Option ((List (Int))):=
 (some (if(decide (a1<0))=true then true else decide ((a0.Players.length:Int)≤a1))).bind fun b27=>
 (if b27=true then
  Gc a0 (-1:Int)
 else
  Gc a0 a1)
def Uw (a0:Aj) (a1:Int) (r:(List (Int))):Prop:=Ah Tryz.prog I0 38 [vA Am a0,vI a1] (· =vL (eI .i64) r)
theorem Sm {a0:Aj} {a1:Int} {r:(List (Int))} (h:MG a0 a1=some r):Uw a0 a1 r:=by
 refine Ah.bo Ag Tryz.func38 rfl Tryz.ntmps38 [.tmp 4] fun _ _ _ _=>?_
 unfold MG at h
 refine Gg [.a,.a] (uo [0] [(2,vP [2] (0))] [.e (bx [2] (Am a0))]) (aN)<|Gj (X:=Int) (fun v=>(u [] [(1,vI v)])) (fun v=>Gc a0 v=some r) ?_ ?_
 ·obtain⟨q1,x1,h⟩:=bS h
  refine Gg [.a,.a,.a,.a,.a,.a,.a,.a,(.v (vB q1))] (u [] [(17,vB q1)]) (aG ((decide (a1<0))==false)<|aG ((decide (a1<0))==false)<|aH ((decide (a1<0))==false)<|aF (decide (a1<0))<|aB x1<|aN)<|iC h (fun h=>?_) (fun h=>?_)
  ·refine Ge [.a] (u [] [(1,vI (-1:Int))]) (aN)<|Tn ⟨(-1:Int),h,wT⟩
  refine hK<|Tn ⟨a1,h,wT⟩
 rintro o0 p0
 replace p0:Gc a0 o0=some r:=p0
 unfold Gc at p0
 refine Gg [.a,.a] (uo [] [(5,vO [5]),(6,vO [6])] [.e (Bl [6] 3 1 (eI .i64) ([]:List (Int))),.e (Bl [5] 3 1 (eI .i64) ([]:List (Int))),.k 0]) (aN)<|Gj (X:=(List (Int))×(List (Int))) (fun v=>(uo [1,2] [] [.e (Bl [6] 3 1 (eI .i64) v.2),.e (Bl [5] 3 1 (eI .i64) v.1)])) (fun v=>Ih v.1 v.2=some r) ?_ ?_
 ·obtain⟨r7,i2,p0⟩:=bS p0
  refine Gg [.a,(.c (vL (eI .i64) r7)),.a,.a] (uo [2] [(19,vL (eI .i64) r7),(20,vI (r7.length:Int)),(21,vI 0)] [.k 0,.k 1]) (aC (Se i2)<|aN)<|hB ?_
  obtain⟨j2,o1,p0⟩:=bS p0
  refine Gi (fun(v:Int×(List (Int))×(List (Int)))=>(uo [] [(21,vI v.1)] [.e (Bl [6] 3 1 (eI .i64) v.2.2),.e (Bl [5] 3 1 (eI .i64) v.2.1)])) o1 (wT) ?_
  rintro⟨j0,m0,n0⟩ z0 i0 p1
  replace i0:Jk o0 r7 j0 m0 n0=some z0:=i0
  unfold Jk at i0
  refine Gg [.a] (u [] [(22,vB (decide (j0<(r7.length:Int))))]) (aN)<|hS<|iC i0 (fun i0=>?_) (fun i0=>?_)
  ·refine hK<|Tn<|Gj (X:=(List (Int))×(List (Int))) (fun v=>(uo [22] [] [.e (Bl [5] 3 1 (eI .i64) v.1),.e (Bl [6] 3 1 (eI .i64) v.2)])) (fun v=>Et j0 v.1 v.2=some z0) ?_ ?_
   ·refine hB ?_
    obtain⟨k0,k1,i0⟩:=bS i0
    refine Gg [.a,(.v (vI k0)),.a] (u [22] [(8,vI k0)]) (aC (Bm k1)<|aC (GN k1 (I1 .i64) 0 1 false (vI k0))<|aC (Eq.refl (vI k0))<|aN) ?_
    obtain⟨j1,y1,i0⟩:=bS i0
    refine Rg [.a,.a,(.c (vI j1))] (sl 44 [(1,vI o0),(5,vO [5]),(6,vO [6]),(8,vI k0),(19,vL (eI .i64) r7),(20,vI (r7.length:Int)),(21,vI j0),(27,vI j1)] [Bl [6] 3 1 (eI .i64) n0,Bl [5] 3 1 (eI .i64) m0]) (aC (Iu y1)<|aN)<|hB<|Gg [.a,.a] (u [] [(28,vB (j1==(-1:Int)))]) (aN)<|iC i0 (fun i0=>?_) (fun i0=>?_)
    ·obtain⟨d1,m1,i0⟩:=bS i0
     refine Ge [.a,.a,.a,(.e d1.length (d1.flatMap (eI .i64))),.a] (uo [] [(31,vI k0),(32,vO [32]),(33,vO [5])] [.e (Bl [5] 3 1 (eI .i64) d1),.e (Bl [32] 3 1 (eI .i64) ([k0]:List (Int))),.k 0]) (aC (M4 m1 (eI .i64))<|aC (Du m1)<|aN)<|qN<|qN<|Tn ⟨(d1,n0),i0,wT⟩
    refine Gg [.a,.a] (u [27,28] [(34,vB (j1==1))]) (aN)<|iC i0 (fun i0=>?_) (fun i0=>?_)
    ·obtain⟨i1,n1,i0⟩:=bS i0
     refine Ge [.a,.a,.a,(.e i1.length (i1.flatMap (eI .i64))),.a] (uo [] [(37,vI k0),(38,vO [38]),(39,vO [6])] [.e (Bl [6] 3 1 (eI .i64) i1),.e (Bl [38] 3 1 (eI .i64) ([k0]:List (Int))),.k 1]) (aC (M4 n1 (eI .i64))<|aC (Du n1)<|aN)<|qN<|qN<|Tn ⟨(m0,i1),i0,wU⟩
    refine hK<|qN<|qN<|Tn ⟨(m0,n0),i0,wU⟩
   rintro⟨x0,y0⟩ t0
   replace t0:Et j0 x0 y0=some z0:=t0
   unfold Et at t0
   refine Re [.a,.a] (sl 44 [(1,vI o0),(5,vO [5]),(6,vO [6]),(19,vL (eI .i64) r7),(20,vI (r7.length:Int)),(21,vI (Ab (j0+1))),(40,vI (Ab (j0+1)))] [Bl [5] 3 1 (eI .i64) x0,Bl [6] 3 1 (eI .i64) y0]) (aN)<|Tn ⟨((Ab (j0+1)),x0,y0),(sI t0).symm,wU⟩
  refine hE<|Te ?_
  obtain rfl:=p1 _ (sI i0).symm
  refine Te<|qX<|Tn ⟨(m0,n0),p0,wT⟩
 rintro⟨z1,d2⟩ q0
 replace q0:Ih z1 d2=some r:=q0
 unfold Ih at q0
 obtain⟨l6,t1,q0⟩:=bS q0
 exact Rg [.a,.a,(.e l6.length (l6.flatMap (eI .i64))),.a] (sl 44 [(4,vO [6])] [Bl [6] 3 1 (eI .i64) l6]) (aC (M4 t1 (eI .i64))<|aC (Du t1)<|aN)<|hR<|bE (vO [6]) (vL (eI .i64) l6) (congrArg (vL (eI .i64)) (sI q0))
def Jv (a0:Aj) (l9_2:List (Au)) (r4:(List (Ao))) (r5:(List (Int))) (r6:(List (Int))) (r7:List (Bw)) (r9:List (AZ)) (r11:List (Ci)):Option (Aj):=
 (BB a0.Extra).bind fun r13=>
 some (⟨l9_2,r4,r5,r6,r7,r9,r11,a0.Turn,a0.Active,a0.Step,a0.Begun,a0.Priority,a0.Passes,a0.NextId,a0.NextStamp,a0.Seed,r13,a0.Over,a0.Winner⟩:Aj)
def LI (r11:List (Ci)):Option ((Unit)⊕(Unit)):=
 (if(decide (0<(r11.length:Int)))=true then
  (idx r11 (0:Int)).bind fun e16=>
  (BB e16.Objects).bind fun r17=>
  (idx r11 (0:Int)).bind fun e18=>
  (some (r11.set ((0:Int)).toNat ({e18 with Objects:=r17}))).bind fun l19=>
  none
 else
  some (.inr ()))
def Jw (a0:Aj) (l9_2:List (Au)) (r4:(List (Ao))) (r5:(List (Int))) (r6:(List (Int))) (r7:List (Bw)) (r9:List (AZ)):Option (Aj):=
 (DG a0.Conts).bind fun r11=>
 (iter (fun(v:Unit)=>LI r11) FU ()).bind (fun o0=>Jv a0 l9_2 r4 r5 r6 r7 r9 r11)
def LJ (r9:List (AZ)):Option ((Unit)⊕(Unit)):=
 (if(decide (0<(r9.length:Int)))=true then
  none
 else
  some (.inr ()))
def Kh (a0:Aj) (l9_2:List (Au)) (r4:(List (Ao))) (r5:(List (Int))) (r6:(List (Int))) (r7:List (Bw)):Option (Aj):=
 (CI a0.Waiting).bind fun r9=>
 (iter (fun(v:Unit)=>LJ r9) FU ()).bind (fun o0=>Jw a0 l9_2 r4 r5 r6 r7 r9)
def LK (r7:List (Bw)):Option ((Unit)⊕(Unit)):=
 (if(decide (0<(r7.length:Int)))=true then
  none
 else
  some (.inr ()))
def Ki (a0:Aj) (l9_2:List (Au)):Option (Aj):=
 (B3 a0.Objects).bind fun r4=>
 (BB a0.Battlefield).bind fun r5=>
 (BB a0.Exile).bind fun r6=>
 (DF a0.Stack).bind fun r7=>
 (iter (fun(v:Unit)=>LK r7) FU ()).bind (fun o0=>Kh a0 l9_2 r4 r5 r6 r7)
def LL (r1:List (Au)) (vt14_29:Int) (l9_30:List (Au)):Option ((Int×(List (Au)))⊕((List (Au)))):=
 (if(decide (vt14_29<(r1.length:Int)))=true then
  (idx l9_30 vt14_29).bind fun e34=>
  (JQ e34).bind fun r35=>
  (idx l9_30 vt14_29).bind fun e36=>
  (some (l9_30.set (vt14_29).toNat r35)).bind fun l37=>
  some (.inl ((Ab (vt14_29+1)),l37))
 else
  some (.inr l9_30))
def Ra (a0:Aj):Option (Aj):=
 (C3 a0.Players).bind fun r1=>
 (iter (fun(v:Int×(List (Au)))=>LL r1 v.1 v.2) FU ((0:Int),r1)).bind (fun o0=>Ki a0 o0)
def Zd (a0:Aj) (r:Aj):Prop:=Ah Tryz.prog I0 39 [vA Am a0] (· =vA Am r)
theorem XE {a0:Aj} {r:Aj} (h:Ra a0=some r):Zd a0 r:=by
 refine Ah.bo Ag Tryz.func39 rfl Tryz.ntmps39 [.cell 2 31] fun _ _ _ _=>?_
 unfold Ra at h
 refine Rg [.a,.a] (sl 138 [(1,vP [1] (0)),(2,vP [2] (0))] [bx [2] [.nils,.nils,.nils,.nils,.nils,.nils,.nils,Aa 0,Aa 0,Aa 0,.bool false,Aa 0,Aa 0,Aa 0,Aa 0,.int .u64 0,.nils,Aa 0,Aa 0],bx [1] (Am a0)]) (aN)<|hS<|hO<|Gp 2 [.a,.a] (u [] [(7,vP [1] (0)),(8,vL Ad a0.Players)]) (aN) ?_
 obtain⟨r1,m3,h⟩:=bS h
 refine Run.inl rfl rfl (EB.co (Q:=fun len cs=>len=r1.length∧cs=r1.flatMap (Ad)) 9 rfl rfl (G7 m3) (aN) ?_)
 rintro _ _ ⟨rfl,rfl⟩
 refine Gw [.a,.a] (uo [] [(10,vP [1] (0))] [.k 0,.k 1,.e (bx [1] [.osl [9],.sl a0.Objects.length (a0.Objects.flatMap (Ac)),.sl a0.Battlefield.length (a0.Battlefield.flatMap (eI .i64)),.sl a0.Exile.length (a0.Exile.flatMap (eI .i64)),.sl a0.Stack.length (a0.Stack.flatMap (An)),.sl a0.Waiting.length (a0.Waiting.flatMap (Ak)),.sl a0.Conts.length (a0.Conts.flatMap (Ar)),Aa a0.Turn,Aa a0.Active,Aa a0.Step,.bool a0.Begun,Aa a0.Priority,Aa a0.Passes,Aa a0.NextId,Aa a0.NextStamp,.int .u64 a0.Seed,.sl a0.Extra.length (a0.Extra.flatMap (eI .i64)),Aa a0.Over,Aa a0.Winner])]) (aN)<|Tn<|Gj (X:=(List (Au))) (fun v=>(uo [7,8,9,10] [] [.e (Bl [9] 73 14 Ad v),.k 1,.k 2])) (fun v=>Ki a0 v=some r) ?_ ?_
 ·refine Gg (nA 4) (u [7,8,9,10] [(13,vI (r1.length:Int)),(14,vI 0)]) (aN)<|hB ?_
  obtain⟨d4,k2,h⟩:=bS h
  refine Gi (fun(v:Int×(List (Au)))=>(uo [] [(14,vI v.1)] [.e (Bl [9] 73 14 Ad v.2),.k 1,.k 2])) k2 (wT) ?_
  rintro⟨i0,t0⟩ j3 m0 p2
  replace m0:LL r1 i0 t0=some j3:=m0
  unfold LL at m0
  refine Gg [.a] (u [] [(15,vB (decide (i0<(r1.length:Int))))]) (aN)<|hS<|iC m0 (fun m0=>?_) (fun m0=>?_)
  ·refine hK<|Tn<|hS<|hB<|Gg [.a,.a] (u [15] [(3,vI i0)]) (aN) ?_
   obtain⟨o1,t1,k1,y2,i4,x1,j1,z1,m0⟩:=Ij m0
   refine Ai.regS DV [[],[0],[],[],[3],[],[3,4,5],[3,4,5,6],[3,4,5,6,7],[0,1,2,3,4,5,6,7,8],[0,1,2,3,4,5,6,7,8,9]] [10] [[false],[true]] [.a,.a,.a,.a,.a,.a,.a,(.v (vA Ad o1)),(.c (vA Ad k1)),.a,(.e j1.length (j1.flatMap (Ad)))] [[9],[2],[1]] ⟨mE 138 0 [(1,[],vP [1] (0)),(2,[],vP [2] (0)),(3,[],vI i0),(13,[],vI (r1.length:Int)),(14,[],vI i0),(17,[(0,vP [1] (0))],.undef),(18,[(1,vO [9])],.undef),(19,[(2,vI i0)],.undef),(20,[(3,vP [1] (0))],.undef),(21,[(4,vO [9])],.undef),(22,[(5,vI i0)],.undef),(23,[(6,vP [9] ((i0).toNat *14))],.undef),(24,[(7,vA Ad o1)],.undef),(25,[(8,vA Ad k1)],.undef),(26,[(9,vP [9] ((i0).toNat *14))],.undef)],[([(10,Bl [9] 73 14 Ad j1)],some (Bl [9] 73 14 Ad t0)),([],some (bx [2] [.nils,.nils,.nils,.nils,.nils,.nils,.nils,Aa 0,Aa 0,Aa 0,.bool false,Aa 0,Aa 0,Aa 0,Aa 0,.int .u64 0,.nils,Aa 0,Aa 0])),([],some (bx [1] [.osl [9],.sl a0.Objects.length (a0.Objects.flatMap (Ac)),.sl a0.Battlefield.length (a0.Battlefield.flatMap (eI .i64)),.sl a0.Exile.length (a0.Exile.flatMap (eI .i64)),.sl a0.Stack.length (a0.Stack.flatMap (An)),.sl a0.Waiting.length (a0.Waiting.flatMap (Ak)),.sl a0.Conts.length (a0.Conts.flatMap (Ar)),Aa a0.Turn,Aa a0.Active,Aa a0.Step,.bool a0.Begun,Aa a0.Priority,Aa a0.Passes,Aa a0.NextId,Aa a0.NextStamp,.int .u64 a0.Seed,.sl a0.Extra.length (a0.Extra.flatMap (eI .i64)),Aa a0.Over,Aa a0.Winner]))],[],[]⟩ _ (bC (aN)<|bC (aN)<|bC (aN)<|bC (aN)<|bC (aN)<|bC (aN)<|bC (aC (Bm t1)<|aN)<|bC (aC (GN t1 C1 0 14 true (vA Ad o1))<|aC (Eq.refl (vA Ad o1))<|aN)<|bC (aC (O7 y2)<|aN)<|bC (aC (Bm x1)<|aN)<|bC (aC (show (i0).toNat *14+14≤(t0.flatMap (Ad)).length ∧(t0.flatMap (Ad)).take ((i0).toNat *14)++(Ad k1)++(t0.flatMap (Ad)).drop ((i0).toNat *14+(Ad k1).length)=j1.flatMap (Ad)from(by rw [←sI z1];exact Xc (e:=Ad) (N:=14) (l:=t0) (i:=i0) (x':=k1) (o:=0) (base:=0) (cs:=(Ad k1)) (pre:=[]) (post:=[]) (by simp) rfl (by simp) rfl x1 C1 (by omega) (Nat.le_of_ble_eq_true (by kernel_rfl)) (by kernel_rfl)))<|aC (show ((some (73,14,j1.length):Option (TypeId×Nat×Nat))=some (73,14,t0.length))∧True from⟨by rw [←sI z1,List.length_set],trivial⟩)<|aN)<|bN)<|qN<|Tn<|Ge [.a,.a] (u [] [(14,vI (Ab (i0+1))),(27,vI (Ab (i0+1)))]) (aN)<|Tn ⟨((Ab (i0+1)),j1),(sI m0).symm,wT⟩
  refine hE<|Te ?_
  obtain rfl:=p2 _ (sI m0).symm
  refine Te<|qX<|Tn ⟨t0,h,wT⟩
 rintro n0 o0
 replace o0:Ki a0 n0=some r:=o0
 unfold Ki at o0
 obtain⟨r4,n3,o0⟩:=bS o0
 refine Gg [.a,.a,(.c (vL Ac r4)),.a,.a] (uo [] [] [.k 0,.k 1,.s 2 [(1,.sl r4.length (r4.flatMap (Ac)))]]) (aC (Hr n3)<|aN) ?_
 obtain⟨r5,o3,o0⟩:=bS o0
 refine Gg [.a,.a,(.c (vL (eI .i64) r5)),.a,.a] (uo [] [] [.k 0,.k 1,.s 2 [(2,.sl r5.length (r5.flatMap (eI .i64)))]]) (aC (BR o3)<|aN) ?_
 obtain⟨r6,p3,o0⟩:=bS o0
 refine Gg [.a,.a,(.c (vL (eI .i64) r6)),.a,.a] (uo [] [] [.k 0,.k 1,.s 2 [(3,.sl r6.length (r6.flatMap (eI .i64)))]]) (aC (BR p3)<|aN)<|hS<|hO<|Gp 2 [.a,.a] (u [] [(40,vP [1] (4)),(41,vL An a0.Stack)]) (aN) ?_
 obtain⟨r7,q3,o0⟩:=bS o0
 refine Run.inl rfl rfl (EB.co (Q:=fun len cs=>len=r7.length∧cs=r7.flatMap (An)) 42 rfl rfl (Iq q3) (aN) ?_)
 rintro _ _ ⟨rfl,rfl⟩
 refine Rw [.a,.a] (sl 138 [(1,vP [1] (0)),(2,vP [2] (0)),(40,vP [1] (4)),(41,vL An a0.Stack),(42,vO [42]),(43,vP [1] (4))] [Bl [42] 57 94 An r7,Bl [9] 73 14 Ad n0,bx [2] [.nils,.nils,.nils,.nils,.nils,.nils,.nils,Aa 0,Aa 0,Aa 0,.bool false,Aa 0,Aa 0,Aa 0,Aa 0,.int .u64 0,.nils,Aa 0,Aa 0],bx [1] [.osl [9],.sl r4.length (r4.flatMap (Ac)),.sl r5.length (r5.flatMap (eI .i64)),.sl r6.length (r6.flatMap (eI .i64)),.osl [42],.sl a0.Waiting.length (a0.Waiting.flatMap (Ak)),.sl a0.Conts.length (a0.Conts.flatMap (Ar)),Aa a0.Turn,Aa a0.Active,Aa a0.Step,.bool a0.Begun,Aa a0.Priority,Aa a0.Passes,Aa a0.NextId,Aa a0.NextStamp,.int .u64 a0.Seed,.sl a0.Extra.length (a0.Extra.flatMap (eI .i64)),Aa a0.Over,Aa a0.Winner]]) (aN)<|Tn<|Gj (X:=Unit) (fun v=>(u [40,41,42,43] [])) (fun v=>Kh a0 n0 r4 r5 r6 r7=some r) ?_ ?_
 ·refine Gg (nA 4) (u [40,41,42,43] [(46,vI (r7.length:Int)),(47,vI 0)]) (aN)<|hB ?_
  obtain⟨z3,j2,o0⟩:=bS o0
  refine Gi (fun(v:Unit)=>(u [] [])) j2 (wT) ?_
  rintro _ i3 q0 o2
  replace q0:LK r7=some i3:=q0
  unfold LK at q0
  refine Gg [.a] (u [] [(48,vB (decide (0<(r7.length:Int))))]) (aN)<|hS<|iC q0 (fun q0=>?_) (fun q0=>?_)
  ·refine hK<|Tn<|hS<|hB<|Gg [.a,.a] (u [48] [(4,vI 0)]) (aN) ?_
   cases q0
  refine hE<|Te ?_
  obtain rfl:=o2 _ (sI q0).symm
  refine Te<|qX<|Tn ⟨(),o0,wT⟩
 rintro _ d1
 replace d1:Kh a0 n0 r4 r5 r6 r7=some r:=d1
 unfold Kh at d1
 refine hS<|hO<|Gp 2 [.a,.a] (u [] [(75,vP [1] (5)),(76,vL Ak a0.Waiting)]) (aN) ?_
 obtain⟨r9,t3,d1⟩:=bS d1
 refine Run.inl rfl rfl (EB.co (Q:=fun len cs=>len=r9.length∧cs=r9.flatMap (Ak)) 77 rfl rfl (GF t3) (aN) ?_)
 rintro _ _ ⟨rfl,rfl⟩
 refine Gw [.a,.a] (uo [] [(78,vP [1] (5))] [.k 0,.k 1,.k 2,.k 3,.s 4 [(5,.osl [77])]]) (aN)<|Tn<|Gj (X:=Unit) (fun v=>(u [75,76,77,78] [])) (fun v=>Jw a0 n0 r4 r5 r6 r7 r9=some r) ?_ ?_
 ·refine Gg (nA 4) (u [75,76,77,78] [(81,vI (r9.length:Int)),(82,vI 0)]) (aN)<|hB ?_
  obtain⟨y3,i2,d1⟩:=bS d1
  refine Gi (fun(v:Unit)=>(u [] [])) i2 (wT) ?_
  rintro _ d3 p0 n2
  replace p0:LJ r9=some d3:=p0
  unfold LJ at p0
  refine Gg [.a] (u [] [(83,vB (decide (0<(r9.length:Int))))]) (aN)<|hS<|iC p0 (fun p0=>?_) (fun p0=>?_)
  ·refine hK<|Tn<|hS<|hB<|Gg [.a,.a] (u [83] [(5,vI 0)]) (aN) ?_
   cases p0
  refine hE<|Te ?_
  obtain rfl:=n2 _ (sI p0).symm
  refine Te<|qX<|Tn ⟨(),d1,wT⟩
 rintro _ x0
 replace x0:Jw a0 n0 r4 r5 r6 r7 r9=some r:=x0
 unfold Jw at x0
 refine hS<|hO<|Gp 2 [.a,.a] (u [] [(98,vP [1] (6)),(99,vL Ar a0.Conts)]) (aN) ?_
 obtain⟨j0,q2,x0⟩:=bS x0
 refine Run.inl rfl rfl (EB.co (Q:=fun len cs=>len=j0.length∧cs=j0.flatMap (Ar)) 100 rfl rfl (Ir q2) (aN) ?_)
 rintro _ _ ⟨rfl,rfl⟩
 refine Gw [.a,.a] (uo [] [(101,vP [1] (6))] [.k 0,.k 1,.k 2,.k 3,.k 4,.s 5 [(6,.osl [100])]]) (aN)<|Tn<|Gj (X:=Unit) (fun v=>(u [98,99,100,101] [])) (fun v=>Jv a0 n0 r4 r5 r6 r7 r9 j0=some r) ?_ ?_
 ·refine Gg (nA 4) (u [98,99,100,101] [(104,vI (j0.length:Int)),(105,vI 0)]) (aN)<|hB ?_
  obtain⟨x3,d2,x0⟩:=bS x0
  refine It (fun(v:Unit)=>(sl 138 [(1,vP [1] (0)),(2,vP [2] (0)),(104,vI (j0.length:Int)),(105,vI 0)] [Bl [100] 61 6 Ar j0,Bl [77] 59 89 Ak r9,Bl [42] 57 94 An r7,Bl [9] 73 14 Ad n0,bx [2] [.nils,.nils,.nils,.nils,.nils,.nils,.nils,Aa 0,Aa 0,Aa 0,.bool false,Aa 0,Aa 0,Aa 0,Aa 0,.int .u64 0,.nils,Aa 0,Aa 0],bx [1] [.osl [9],.sl r4.length (r4.flatMap (Ac)),.sl r5.length (r5.flatMap (eI .i64)),.sl r6.length (r6.flatMap (eI .i64)),.osl [42],.osl [77],.osl [100],Aa a0.Turn,Aa a0.Active,Aa a0.Step,.bool a0.Begun,Aa a0.Priority,Aa a0.Passes,Aa a0.NextId,Aa a0.NextStamp,.int .u64 a0.Seed,.sl a0.Extra.length (a0.Extra.flatMap (eI .i64)),Aa a0.Over,Aa a0.Winner]])) d2 (wT) ?_
  rintro _ z2 k0 m2
  replace k0:LI j0=some z2:=k0
  unfold LI at k0
  refine Gg [.a] (u [] [(106,vB (decide (0<(j0.length:Int))))]) (aN)<|hS<|iC k0 (fun k0=>?_) (fun k0=>?_)
  ·refine hK<|Tn<|hS<|hB<|Gg [.a,.a] (u [106] [(6,vI 0)]) (aN)<|hS ?_
   obtain⟨n1,p1,y0,x2,k3,q1,m1,y1,k0⟩:=Ij k0
   refine Ai.regS DV [[],[0],[],[],[3],[],[3,4,5],[3,4,5,6],[3,4,5,6,7],[3,4,5,6,7,8],[0,1,2,3,4,5,6,7,8,9],[0,1,2,3,4,5,6,7,8,9,10],[0,1,2,3,4,5,6,7,8,9,10,11]] [12] [[false],[true]] [.a,.a,.a,.a,.a,.a,.a,.a,(.v (vL (eI .i64) n1.Objects)),(.c (vL (eI .i64) y0)),.a,.a,(.e m1.length (m1.flatMap (Ar)))] [[100],[77],[42],[9],[2],[1]] ⟨mE 138 0 [(1,[],vP [1] (0)),(2,[],vP [2] (0)),(6,[],vI 0),(104,[],vI (j0.length:Int)),(105,[],vI 0),(108,[(0,vP [1] (6))],.undef),(109,[(1,vO [100])],.undef),(110,[(2,vI 0)],.undef),(111,[(3,vP [1] (6))],.undef),(112,[(4,vO [100])],.undef),(113,[(5,vI 0)],.undef),(114,[(6,vP [100] (((0:Int)).toNat *6))],.undef),(115,[(7,vP [100] (((0:Int)).toNat *6+4))],.undef),(116,[(8,vL (eI .i64) n1.Objects)],.undef),(117,[(9,vL (eI .i64) y0)],.undef),(118,[(10,vP [100] (((0:Int)).toNat *6))],.undef),(119,[(11,vP [100] (((0:Int)).toNat *6+4))],.undef)],[([(12,Bl [100] 61 6 Ar m1)],some (Bl [100] 61 6 Ar j0)),([],some (Bl [77] 59 89 Ak r9)),([],some (Bl [42] 57 94 An r7)),([],some (Bl [9] 73 14 Ad n0)),([],some (bx [2] [.nils,.nils,.nils,.nils,.nils,.nils,.nils,Aa 0,Aa 0,Aa 0,.bool false,Aa 0,Aa 0,Aa 0,Aa 0,.int .u64 0,.nils,Aa 0,Aa 0])),([],some (bx [1] [.osl [9],.sl r4.length (r4.flatMap (Ac)),.sl r5.length (r5.flatMap (eI .i64)),.sl r6.length (r6.flatMap (eI .i64)),.osl [42],.osl [77],.osl [100],Aa a0.Turn,Aa a0.Active,Aa a0.Step,.bool a0.Begun,Aa a0.Priority,Aa a0.Passes,Aa a0.NextId,Aa a0.NextStamp,.int .u64 a0.Seed,.sl a0.Extra.length (a0.Extra.flatMap (eI .i64)),Aa a0.Over,Aa a0.Winner]))],[],[]⟩ _ (bC (aN)<|bC (aN)<|bC (aN)<|bC (aN)<|bC (aN)<|bC (aN)<|bC (aC (Bm p1)<|aN)<|bC (aN)<|bC (aC (GN p1 JF 4 1 false (vL (eI .i64) n1.Objects))<|aC (Eq.refl (vL (eI .i64) n1.Objects))<|aN)<|bC (aC (BR x2)<|aN)<|bC (aC (Bm q1)<|aN)<|bC (aN)<|bC (aC (show ((0:Int)).toNat *6+4+1≤(j0.flatMap (Ar)).length ∧(j0.flatMap (Ar)).take (((0:Int)).toNat *6+4)++([.sl y0.length (y0.flatMap (eI .i64))]:List C)++(j0.flatMap (Ar)).drop (((0:Int)).toNat *6+4+([.sl y0.length (y0.flatMap (eI .i64))]:List C).length)=m1.flatMap (Ar)from(by rw [←sI y1];exact Xc (e:=Ar) (N:=6) (l:=j0) (i:=(0:Int)) (x':=({k3 with Objects:=y0})) (o:=4) (base:=0) (cs:=([.sl y0.length (y0.flatMap (eI .i64))]:List C)) (pre:=[]) (post:=[]) (by simp) rfl (by simp) rfl q1 JF (by omega) (Nat.le_of_ble_eq_true (by kernel_rfl)) (by kernel_rfl)))<|aC (show ((some (61,6,m1.length):Option (TypeId×Nat×Nat))=some (61,6,j0.length))∧True from⟨by rw [←sI y1,List.length_set],trivial⟩)<|aN)<|bN)<|Tn<|Gs (u [108,109,110,111,112,113,114,115,116,117,118,119] []) ?_
   cases k0
  refine hE<|Te ?_
  obtain rfl:=m2 _ (sI k0).symm
  refine Te<|qX<|Tn ⟨(),x0,wT⟩
 rintro _ z0
 replace z0:Jv a0 n0 r4 r5 r6 r7 r9 j0=some r:=z0
 unfold Jv at z0
 obtain⟨i1,t2,z0⟩:=bS z0
 exact Rg [.a,.a,(.c (vL (eI .i64) i1)),.a,.a] (sl 138 [(1,vP [1] (0)),(2,vP [2] (0))] [Bl [100] 61 6 Ar j0,Bl [77] 59 89 Ak r9,Bl [42] 57 94 An r7,Bl [9] 73 14 Ad n0,bx [2] [.nils,.nils,.nils,.nils,.nils,.nils,.nils,Aa 0,Aa 0,Aa 0,.bool false,Aa 0,Aa 0,Aa 0,Aa 0,.int .u64 0,.nils,Aa 0,Aa 0],bx [1] [.osl [9],.sl r4.length (r4.flatMap (Ac)),.sl r5.length (r5.flatMap (eI .i64)),.sl r6.length (r6.flatMap (eI .i64)),.osl [42],.osl [77],.osl [100],Aa a0.Turn,Aa a0.Active,Aa a0.Step,.bool a0.Begun,Aa a0.Priority,Aa a0.Passes,Aa a0.NextId,Aa a0.NextStamp,.int .u64 a0.Seed,.sl i1.length (i1.flatMap (eI .i64)),Aa a0.Over,Aa a0.Winner]]) (aC (BR t2)<|aN)<|Gg [.a,.a] (uo [1] [] [.k 0,.k 1,.k 2,.k 3,.e (bx [2] [.osl [9],.sl r4.length (r4.flatMap (Ac)),.sl r5.length (r5.flatMap (eI .i64)),.sl r6.length (r6.flatMap (eI .i64)),.osl [42],.osl [77],.osl [100],Aa a0.Turn,Aa a0.Active,Aa a0.Step,.bool a0.Begun,Aa a0.Priority,Aa a0.Passes,Aa a0.NextId,Aa a0.NextStamp,.int .u64 a0.Seed,.sl i1.length (i1.flatMap (eI .i64)),Aa a0.Over,Aa a0.Winner])]) (aN)<|hR<|bE (.agg [.osl [9],.sl r4.length (r4.flatMap (Ac)),.sl r5.length (r5.flatMap (eI .i64)),.sl r6.length (r6.flatMap (eI .i64)),.osl [42],.osl [77],.osl [100],Aa a0.Turn,Aa a0.Active,Aa a0.Step,.bool a0.Begun,Aa a0.Priority,Aa a0.Passes,Aa a0.NextId,Aa a0.NextStamp,.int .u64 a0.Seed,.sl i1.length (i1.flatMap (eI .i64)),Aa a0.Over,Aa a0.Winner]) (.agg (Am (⟨n0,r4,r5,r6,r7,r9,j0,a0.Turn,a0.Active,a0.Step,a0.Begun,a0.Priority,a0.Passes,a0.NextId,a0.NextStamp,a0.Seed,i1,a0.Over,a0.Winner⟩:Aj))) (congrArg (vA Am) (sI z0))
def Og (a0:List UInt8):Option (Bool):=
 (XC a0).bind fun r1=>
 (gd (r1==true) (NE)).bind fun r2=>
 (gd (r1==true) (Of r2 a0)).bind fun r3=>
 (some (if r1=true then decide (r3<0)else false)).bind fun b4=>
 (gd (b4==true) (LH)).bind fun r5=>
 (gd (b4==true) (Of r5 a0)).bind fun r6=>
 (some (if b4=true then decide (r6<0)else false)).bind fun b7=>
 some b7
def GB (a0:Int):Option ((List UInt8)):=
 (some (if(decide (a0<1))=true then true else decide (63<a0))).bind fun b1=>
 (if b1=true then
  some ([]:List UInt8)
 else
  (LH).bind fun r3=>
  (aO r3 a0 Lg).bind fun r4=>
  some r4)
end Go.PL
