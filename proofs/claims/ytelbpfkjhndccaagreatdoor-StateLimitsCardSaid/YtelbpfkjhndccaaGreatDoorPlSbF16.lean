/- Functions of the program, as partial functions in Lean, with proofs. -/
import Derived.Test.YtelbpfkjhndccaaGreatDoorPlSbB
import Derived.Test.YtelbpfkjhndccaaGreatDoorPlSbF0
import Derived.Test.YtelbpfkjhndccaaGreatDoorPlSbF1
import Derived.Test.YtelbpfkjhndccaaGreatDoorPlSbF10
import Derived.Test.YtelbpfkjhndccaaGreatDoorPlSbF12
import Derived.Test.YtelbpfkjhndccaaGreatDoorPlSbF15
import Derived.Test.YtelbpfkjhndccaaGreatDoorPlSbF8
namespace Go.PL
open Go Go.RowKit Go.Proofs
set_option maxRecDepth 100000
set_option linter.all false
set_option maxHeartbeats 4000000
attribute [local irreducible] Ai B4 BL
def FI (a0:Aj):Option (Bool):=
 some (decide ((a0.Stack.length:Int)≤64))
def EJ (vt13_4:Int) (l9_8:List (Int×Int)):Option ((Int×(List (Int×Int)))⊕(Unit⊕Unit)):=
 some (.inl ((Ab (vt13_4+1)),l9_8))
def Ed (vt13_4:Int) (l9_5:List (Int×Int)) (e10:Bw) (vt81_21:Bool):Option ((Int×(List (Int×Int)))⊕(Unit⊕Unit)):=
 (if vt81_21=true then
  some (.inr (.inr ()))
 else
  EJ vt13_4 (GE l9_5 e10.Id (Ab ((Cn l9_5 e10.Id)+(1:Int)))))
def Cy (vt13_4:Int) (l9_5:List (Int×Int)) (e10:Bw) (r11:Ao×Bool) (r12:Bool) (vt33_13:Bool):Option ((Int×(List (Int×Int)))⊕(Unit⊕Unit)):=
 (if vt33_13=true then
  some (.inr (.inr ()))
 else
  (if(e10.Kind==1)=true then
   (gd (((e10.Source != e10.Id)==false)&&((!r12)==true)) (Ds e10.Ability)).bind fun r17=>
   (some (if(!r12)=true then !r17 else false)).bind fun b18=>
   (some (if(e10.Source != e10.Id)=true then true else b18)).bind fun b19=>
   (if b19=true then
    some (.inr (.inr ()))
   else
    EJ vt13_4 (GE l9_5 e10.Id (Ab ((Cn l9_5 e10.Id)+(1:Int)))))
  else
   (if(e10.Kind != 2)=true then
    Ed vt13_4 l9_5 e10 (e10.Kind != 2)
   else
    (if r11.2=true then
     Ed vt13_4 l9_5 e10 r11.2
    else
     (Ds e10.Ability).bind fun r26=>
     Ed vt13_4 l9_5 e10 (!r26)))))
def CY (a0:Aj) (vt13_4:Int) (l9_5:List (Int×Int)):Option ((Int×(List (Int×Int)))⊕(Unit⊕Unit)):=
 (if(decide (vt13_4<(a0.Stack.length:Int)))=true then
  (idx a0.Stack vt13_4).bind fun e10=>
  (Cv a0 e10.Id).bind fun r11=>
  (Dr e10.Ability (⟨0,(⟨0,0,0,0,0,0,0,[],0,0,(⟨0,0⟩:Ae),(⟨0,0⟩:Ae),(⟨0,0⟩:Ae)⟩:Af),([]:List (Bx)),(⟨(⟨0,0,(⟨0,0,0,0,0⟩:A5 (Int))⟩:A1),false,false,0⟩:CG),false,(⟨0,0,(⟨0,0,0,0,0,0,0,[],0,0,(⟨0,0⟩:Ae),(⟨0,0⟩:Ae),(⟨0,0⟩:Ae)⟩:Af)⟩:By),false,([]:List (C0)),([]:List (Aw)),(⟨0,0,(⟨0,0,0,0,0,0,0,[],0,0,(⟨0,0⟩:Ae),(⟨0,0⟩:Ae),(⟨0,0⟩:Ae)⟩:Af),0,0,0,0⟩:AJ)⟩:AN)).bind fun r12=>
  (Cs e10.Id (1:Int) (Ab (a0.NextId - 1))).bind fun r27=>
  (if(!r27)=true then
   Cy vt13_4 l9_5 e10 r11 r12 (!r27)
  else
   (if(decide (1<(Cn (GE l9_5 e10.Id (Ab ((Cn l9_5 e10.Id)+(1:Int)))) e10.Id)))=true then
    Cy vt13_4 l9_5 e10 r11 r12 (decide (1<(Cn (GE l9_5 e10.Id (Ab ((Cn l9_5 e10.Id)+(1:Int)))) e10.Id)))
   else
    (Cs e10.X (0:Int) (1000000:Int)).bind fun r30=>
    (if(!r30)=true then
     Cy vt13_4 l9_5 e10 r11 r12 (!r30)
    else
     (if(decide (4<(e10.Targets.length:Int)))=true then
      Cy vt13_4 l9_5 e10 r11 r12 (decide (4<(e10.Targets.length:Int)))
     else
      (Cs e10.Control (0:Int) (Ab ((a0.Players.length:Int) - (1:Int)))).bind fun r33=>
      Cy vt13_4 l9_5 e10 r11 r12 (!r33)))))
 else
  some (.inr (.inl ())))
def IJ (a0:Aj):Option (Bool):=
 (iter (fun(v:Int×(List (Int×Int)))=>CY a0 v.1 v.2) FU ((0:Int),([]:List (Int×Int)))).bind (Sum.elim (fun o0=>FI a0) (fun o1=>some false))
def VG (a0:Aj) (r:Bool):Prop:=Ah Tryz.prog I0 18 [vA Am a0] (· =vB r)
theorem UG {a0:Aj} {r:Bool} (h:IJ a0=some r):VG a0 r:=by
 refine Ah.bo Ag Tryz.func18 rfl Tryz.ntmps18 [.tmp 2] fun _ _ _ _=>?_
 unfold IJ at h
 refine Rg [.a,.a] (sl 95 [(1,vP [1] (0))] [bx [1] (Am a0)]) (aN)<|hS<|hO<|Gp 0 [] (u [] []) (aN)<|Run.inl rfl rfl (EB.mkMap 9 rfl rfl ?_)
 refine Gw [.a] (u [] [(3,.c (.mref [9]))]) (aN)<|Tn<|Gj (X:=Unit) (fun v=>(uo [3,9] [] [.k 1])) (fun v=>FI a0=some r) ?_ ?_
 ·refine Gg (nA 4) (u [9] [(11,vL An a0.Stack),(12,vI (a0.Stack.length:Int)),(13,vI 0)]) (aN)<|hB ?_
  obtain⟨q2,y1,h⟩:=bS h
  refine Gi (fun(v:Int×(List (Int×Int)))=>(uo [] [(13,vI v.1)] [.e (⟨[9],none,[.mp v.2],false⟩),.k 1])) y1 (wT) ?_
  rintro⟨n0,m0⟩ t0 j0 x0
  replace j0:CY a0 n0 m0=some t0:=j0
  unfold CY at j0
  refine Gg [.a] (u [] [(14,vB (decide (n0<(a0.Stack.length:Int))))]) (aN)<|hS<|iC j0 (fun j0=>?_) (fun j0=>?_)
  ·refine hK<|Tn<|Gj (X:=(List (Int×Int))) (fun v=>(uo [14] [] [.e (⟨[9],none,[.mp v],false⟩),.k 1])) (fun v=>EJ n0 v=some t0) ?_ ?_
   ·refine hB ?_
    obtain⟨i0,m1,j0⟩:=bS j0
    refine Gg [.a,(.v (vA An i0)),.a,.a] (uo [14] [(5,vP [5] (0))] [.e (bx [5] (An i0)),.k 0,.k 1]) (aC (Bm m1)<|aC (GN m1 KQ 0 94 true (vA An i0))<|aC (Eq.refl (vA An i0))<|aN)<|hS<|hO<|Gp 3 (nA 3) (u [] [(17,.c (.mref [9])),(18,vP [5] (0)),(19,vI i0.Id)]) (aN)<|Run.inl rfl rfl (EB.mapGet (id:=[9]) (kv:=m0) (n:=i0.Id) rfl ?_)
    refine Rp 1 [.a] (sl 95 [(1,vP [1] (0)),(3,.c (.mref [9])),(5,vP [5] (0)),(11,vL An a0.Stack),(12,vI (a0.Stack.length:Int)),(13,vI n0),(17,.c (.mref [9])),(18,vP [5] (0)),(19,vI i0.Id),(20,vI (Cn m0 i0.Id)),(21,vI (Ab ((Cn m0 i0.Id)+(1:Int))))] [bx [5] (An i0),⟨[9],none,[.mp m0],false⟩,bx [1] (Am a0)]) (aN)<|Run.inl rfl rfl (EB.mapSet (id:=[9]) (kv:=m0) (n:=i0.Id) (z:=(Ab ((Cn m0 i0.Id)+(1:Int)))) rfl rfl ?_)
    refine Gw [] (u [] []) (aN)<|Tn ?_
    obtain⟨p0,z1,j0⟩:=bS j0
    refine Gg [.a,.a,.a,(.c (.tup [vA Ac p0.1,vB p0.2])),.a,.a,.a,.a,.a,.a] (u [17,18,19,20,21] [(7,vB p0.2)]) (aC (Dq z1)<|aC (show True∧0<[V.undef,V.undef].length from⟨trivial,(by decide)⟩)<|aC (show True∧1<[V.undef,V.undef].length from⟨trivial,(by decide)⟩)<|aN) ?_
    obtain⟨q0,d2,j0⟩:=bS j0
    refine Gg [.a,.a,.a,(.c (vB q0)),.a] (u [] [(8,vB q0)]) (aC (And.intro trivial fj)<|aC (Hc d2)<|aN)<|hB<|Gj (X:=Bool) (fun v=>(u [] [(33,vB v)])) (fun v=>Cy n0 m0 i0 p0 q0 v=some t0) ?_ ?_
    ·obtain⟨o1,k2,j0⟩:=bS j0
     refine Gg [.a,.a,.a,.a,.a,(.c (vB o1)),.a,.a] (u [] [(33,vB (!o1))]) (aC (BH k2)<|aN)<|iC j0 (fun j0=>?_) (fun j0=>?_)
     ·refine hK<|Tn ⟨(!o1),j0,wT⟩
     refine hS<|hO<|Gp 3 (nA 3) (u [] [(41,.c (.mref [9])),(42,vP [5] (0)),(43,vI i0.Id)]) (aN)<|Run.inl rfl rfl (EB.mapGet (id:=[9]) (kv:=(GE m0 i0.Id (Ab ((Cn m0 i0.Id)+(1:Int))))) (n:=i0.Id) rfl ?_)
     refine Gw [.a,.a] (u [] [(33,vB (decide (1<(Cn (GE m0 i0.Id (Ab ((Cn m0 i0.Id)+(1:Int)))) i0.Id)))),(45,vB (decide (1<(Cn (GE m0 i0.Id (Ab ((Cn m0 i0.Id)+(1:Int)))) i0.Id))))]) (aN)<|Tn<|iC j0 (fun j0=>?_) (fun j0=>?_)
     ·refine hK<|Tn ⟨(decide (1<(Cn (GE m0 i0.Id (Ab ((Cn m0 i0.Id)+(1:Int)))) i0.Id))),j0,wT⟩
     obtain⟨p1,m2,j0⟩:=bS j0
     refine Gg [.a,.a,(.c (vB p1)),.a,.a] (u [41,42,43,44,45] [(33,vB (!p1))]) (aC (BH m2)<|aN)<|iC j0 (fun j0=>?_) (fun j0=>?_)
     ·refine hK<|Tn ⟨(!p1),j0,wT⟩
     refine Rg (nA 5) (sl 95 [(1,vP [1] (0)),(3,.c (.mref [9])),(5,vP [5] (0)),(7,vB p0.2),(8,vB q0),(11,vL An a0.Stack),(12,vI (a0.Stack.length:Int)),(13,vI n0),(33,vB (decide (4<(i0.Targets.length:Int))))] [bx [5] (An i0),⟨[9],none,[.mp (GE m0 i0.Id (Ab ((Cn m0 i0.Id)+(1:Int))))],false⟩,bx [1] (Am a0)]) (aN)<|iC j0 (fun j0=>?_) (fun j0=>?_)
     ·refine hK<|Tn ⟨(decide (4<(i0.Targets.length:Int))),j0,wT⟩
     obtain⟨z0,n2,j0⟩:=bS j0
     refine Ge [.a,.a,.a,.a,.a,.a,(.c (vB z0)),.a,.a] (u [] [(33,vB (!z0)),(54,vP [5] (3)),(55,vI i0.Control),(56,vP [1] (0)),(57,vL Ad a0.Players),(58,vI (a0.Players.length:Int)),(59,vI (Ab ((a0.Players.length:Int) - (1:Int)))),(60,vB z0),(61,vB (!z0))]) (aC (BH n2)<|aN)<|Tn ⟨(!z0),j0,wT⟩
    rintro j1 k0
    replace k0:Cy n0 m0 i0 p0 q0 j1=some t0:=k0
    unfold Cy at k0
    refine iC k0 (fun k0=>?_) (fun k0=>?_)
    ·refine Rg [.a] (sl 95 [(2,vB false)] []) (aN)<|hR<|qR<|qR<|Tr ?_
     obtain rfl:=x0 _ (sI k0).symm
     replace h:=EL h
     exact Tr<|qR<|Tr<|bQ _ (kB h)
    refine Gg (nA 4) (u [33] [(62,vB (i0.Kind==1))]) (aN)<|iC k0 (fun k0=>?_) (fun k0=>?_)
    ·obtain⟨p2,i2,o2,t1,q1,x1,k0⟩:=M9 k0
     refine Gg [.a,.a,.a,.a,.a,.a,.a,.a,.a,.a,.a,(.c (vB p2)),.a,(.v (vB o2)),(.v (vB q1))] (uo [5,7,8,62] [(80,vB q1)] [.k 1,.k 2]) (aG ((i0.Source != i0.Id)==false)<|aG ((i0.Source != i0.Id)==false)<|aG (((i0.Source != i0.Id)==false)&&((!q0)==true))<|aC (c1 i2 LO)<|aG (((i0.Source != i0.Id)==false)&&((!q0)==true))<|aC (fun hg:((i0.Source != i0.Id)==false)=true=>aC (gi ((i0.Source != i0.Id)==false))<|aC (fun q:(!q0)=true=>(gA hg (gT q)))<|aB t1<|aN)<|aF (i0.Source != i0.Id)<|aB x1<|aN)<|iC k0 (fun k0=>?_) (fun k0=>?_)
     ·refine Rg [.a] (sl 95 [(2,vB false)] []) (aN)<|hR<|qR<|qR<|Tr ?_
      obtain rfl:=x0 _ (sI k0).symm
      replace h:=EL h
      exact Tr<|qR<|Tr<|bQ _ (kB h)
     refine hK<|qN<|qN<|Tn ⟨(GE m0 i0.Id (Ab ((Cn m0 i0.Id)+(1:Int)))),k0,wT⟩
    refine Gj (X:=Bool) (fun v=>(uo [5,7,8,62] [(81,vB v)] [.k 1,.k 2])) (fun v=>Ed n0 m0 i0 v=some t0) ?_ ?_
    ·refine Gg (nA 4) (u [8,62] [(81,vB (i0.Kind != 2))]) (aN)<|iC k0 (fun k0=>?_) (fun k0=>?_)
     ·refine hK<|Tn ⟨(i0.Kind != 2),k0,wT⟩
     refine Gg [.a,.a] (u [7] [(81,vB p0.2)]) (aN)<|iC k0 (fun k0=>?_) (fun k0=>?_)
     ·refine hK<|Tn ⟨p0.2,k0,wT⟩
     obtain⟨y0,j2,k0⟩:=bS k0
     refine Re [.a,.a,(.c (vB y0)),.a,.a] (sl 95 [(1,vP [1] (0)),(3,.c (.mref [9])),(5,vP [5] (0)),(11,vL An a0.Stack),(12,vI (a0.Stack.length:Int)),(13,vI n0),(81,vB (!y0)),(86,vP [5] (6)),(87,vA Bp i0.Ability),(88,vB y0),(89,vB (!y0))] [bx [5] (An i0),⟨[9],none,[.mp (GE m0 i0.Id (Ab ((Cn m0 i0.Id)+(1:Int))))],false⟩,bx [1] (Am a0)]) (aC (LO j2)<|aN)<|Tn ⟨(!y0),k0,wT⟩
    rintro k1 o0
    replace o0:Ed n0 m0 i0 k1=some t0:=o0
    unfold Ed at o0
    refine iC o0 (fun o0=>?_) (fun o0=>?_)
    ·refine Rg [.a] (sl 95 [(2,vB false)] []) (aN)<|hR<|qR<|qR<|Tr ?_
     obtain rfl:=x0 _ (sI o0).symm
     replace h:=EL h
     exact Tr<|qR<|Tr<|bQ _ (kB h)
    refine hK<|qN<|qN<|Tn ⟨(GE m0 i0.Id (Ab ((Cn m0 i0.Id)+(1:Int)))),o0,wT⟩
   rintro n1 i1
   replace i1:EJ n0 n1=some t0:=i1
   unfold EJ at i1
   refine Ge [.a,.a] (u [] [(13,vI (Ab (n0+1))),(90,vI (Ab (n0+1)))]) (aN)<|Tn ⟨((Ab (n0+1)),n1),(sI i1).symm,wT⟩
  refine hE<|Te ?_
  obtain rfl:=x0 _ (sI j0).symm
  replace h:=Fa h
  refine Te<|qX<|Tn ⟨(),h,wT⟩
 rintro _ d1
 replace d1:FI a0=some r:=d1
 unfold FI at d1
 exact Rg (nA 5) (sl 95 [(2,vB (decide ((a0.Stack.length:Int)≤64)))] []) (aN)<|hR<|bQ _ (kB d1)
def FJ (a0:Aj):Option (Bool):=
 (some (if(decide ((a0.Waiting.length:Int)≤64))=true then decide ((a0.Conts.length:Int)≤64)else false)).bind fun b3=>
 some b3
def Dc (a0:Aj) (vt38_5:Int):Option ((Int)⊕(Unit⊕Unit)):=
 (if(decide (vt38_5<(a0.Conts.length:Int)))=true then
  (idx a0.Conts vt38_5).bind fun e8=>
  (Cs e8.Control (0:Int) (Ab ((a0.Players.length:Int) - (1:Int)))).bind fun r9=>
  (some (if(!r9)=true then true else decide (a0.NextStamp≤e8.Stamp))).bind fun b10=>
  (some (if(e8.Until != 1)=true then e8.Until != 2 else false)).bind fun b11=>
  (some (if b10=true then true else b11)).bind fun b12=>
  (gd (b12==false) (KZ e8.Objects)).bind fun r13=>
  (some (if b12=true then true else !r13)).bind fun b14=>
  (gd (b14==false) (E8 e8.Mods)).bind fun r15=>
  (some (if b14=true then true else r15==([]:List UInt8))).bind fun b16=>
  (if b16=true then
   some (.inr (.inr ()))
  else
   some (.inl (Ab (vt38_5+1))))
 else
  some (.inr (.inl ())))
def FK (a0:Aj):Option (Bool):=
 (iter (fun(v:Int)=>Dc a0 v) FU (0:Int)).bind (Sum.elim (fun o0=>FJ a0) (fun o1=>some false))
def CN (a0:Aj) (vt10_19:Int):Option ((Int)⊕(Unit⊕Unit)):=
 (if(decide (vt10_19<(a0.Waiting.length:Int)))=true then
  (idx a0.Waiting vt10_19).bind fun e22=>
  (Cs e22.Control (0:Int) (Ab ((a0.Players.length:Int) - (1:Int)))).bind fun r23=>
  (some (if(!r23)=true then true else e22.Ability.Kind != 4)).bind fun b24=>
  (gd (b24==false) (Ds e22.Ability)).bind fun r25=>
  (some (if b24=true then true else !r25)).bind fun b26=>
  (if b26=true then
   some (.inr (.inr ()))
  else
   some (.inl (Ab (vt10_19+1))))
 else
  some (.inr (.inl ())))
def Ib (a0:Aj):Option (Bool):=
 (iter (fun(v:Int)=>CN a0 v) FU (0:Int)).bind (Sum.elim (fun o0=>FK a0) (fun o1=>some false))
def Sr (a0:Aj) (r:Bool):Prop:=Ah Tryz.prog I0 19 [vA Am a0] (· =vB r)
theorem Rm {a0:Aj} {r:Bool} (h:Ib a0=some r):Sr a0 r:=by
 refine Ah.bo Ag Tryz.func19 rfl Tryz.ntmps19 [.tmp 2] fun _ _ _ _=>?_
 unfold Ib at h
 refine Rg [.a,.a] (sl 90 [(1,vP [1] (0))] [bx [1] (Am a0)]) (aN)<|Gj (X:=Unit) (fun v=>(u [] [])) (fun v=>FK a0=some r) ?_ ?_
 ·refine Gg (nA 4) (u [] [(8,vL Ak a0.Waiting),(9,vI (a0.Waiting.length:Int)),(10,vI 0)]) (aN)<|hB ?_
  obtain⟨i3,k1,h⟩:=bS h
  refine Gi (fun(v:Int)=>(u [] [(10,vI v)])) k1 (wT) ?_
  rintro k0 o2 i0 d1
  replace i0:CN a0 k0=some o2:=i0
  unfold CN at i0
  refine Gg [.a] (u [] [(11,vB (decide (k0<(a0.Waiting.length:Int))))]) (aN)<|hS<|iC i0 (fun i0=>?_) (fun i0=>?_)
  ·refine hK<|Tn<|hS<|hB ?_
   obtain⟨z0,i1,i0⟩:=bS i0
   refine Gg [.a,(.v (vA Ak z0)),.a,.a] (uo [11] [(4,vP [4] (0))] [.e (bx [4] (Ak z0)),.k 0]) (aC (Bm i1)<|aC (GN i1 JE 0 89 true (vA Ak z0))<|aC (Eq.refl (vA Ak z0))<|aN) ?_
   obtain⟨q0,m2,y0,z1,z2,n2,n1,d2,i0⟩:=Ij i0
   refine Gg [.a,.a,.a,.a,.a,.a,(.c (vB q0)),.a,.a,.a,.a,.a,.a,(.v (vB y0)),.a,.a,.a,(.c (vB z2)),.a,(.v (vB n1))] (uo [4] [(33,vB n1)] [.k 1]) (aC (BH m2)<|aG ((!q0)==false)<|aG ((!q0)==false)<|aG ((!q0)==false)<|aF (!q0)<|aB z1<|aG (y0==false)<|aC (c1 n2 LO)<|aG (y0==false)<|aF y0<|aB d2<|aN)<|iC i0 (fun i0=>?_) (fun i0=>?_)
   ·refine Rg [.a] (sl 90 [(2,vB false)] []) (aN)<|hR<|qR<|Tr ?_
    obtain rfl:=d1 _ (sI i0).symm
    replace h:=EL h
    exact Tr<|qR<|Tr<|bQ _ (kB h)
   refine hK<|qN<|Tn<|Ge [.a,.a] (u [] [(10,vI (Ab (k0+1))),(34,vI (Ab (k0+1)))]) (aN)<|Tn ⟨(Ab (k0+1)),(sI i0).symm,wT⟩
  refine hE<|Te ?_
  obtain rfl:=d1 _ (sI i0).symm
  replace h:=Fa h
  refine Te<|qX<|Tn ⟨(),h,wT⟩
 rintro _ m0
 replace m0:FK a0=some r:=m0
 unfold FK at m0
 refine Gj (X:=Unit) (fun v=>(u [] [])) (fun v=>FJ a0=some r) ?_ ?_
 ·refine Gg (nA 4) (u [] [(36,vL Ar a0.Conts),(37,vI (a0.Conts.length:Int)),(38,vI 0)]) (aN)<|hB ?_
  obtain⟨j3,i2,m0⟩:=bS m0
  refine Gi (fun(v:Int)=>(u [] [(38,vI v)])) i2 (wT) ?_
  rintro n0 d3 j0 j1
  replace j0:Dc a0 n0=some d3:=j0
  unfold Dc at j0
  refine Gg [.a] (u [] [(39,vB (decide (n0<(a0.Conts.length:Int))))]) (aN)<|hS<|iC j0 (fun j0=>?_) (fun j0=>?_)
  ·refine hK<|Tn<|hS<|hB ?_
   obtain⟨e8,o1,j0⟩:=bS j0
   refine Gg [.a,(.v (vA Ar e8)),.a,.a] (uo [39] [(6,vP [6] (0))] [.e (bx [6] (Ar e8)),.k 0]) (aC (Bm o1)<|aC (GN o1 JF 0 6 true (vA Ar e8))<|aC (Eq.refl (vA Ar e8))<|aN) ?_
   obtain⟨r9,t2,o0,p1,p2,q1,t0,t1,j0⟩:=Ij j0
   obtain⟨x2,j2,x0,x1,y2,k2,m1,y1,j0⟩:=Ij j0
   refine Gg [.a,.a,.a,.a,.a,.a,(.c (vB r9)),.a,.a,.a,.a,.a,.a,.a,(.v (vB o0)),.a,.a,.a,.a,.a,.a,.a,.a,(.v (vB p2)),(.v (vB t0)),.a,.a,.a,(.c (vB x2)),.a,(.v (vB x0)),.a,.a,.a,(.c (vS y2)),.a,(.v (vB m1))] (uo [6] [(78,vB m1)] [.k 1]) (aC (BH t2)<|aG ((!r9)==false)<|aG ((!r9)==false)<|aH ((!r9)==false)<|aF (!r9)<|aB p1<|aG (o0==false)<|aG (o0==false)<|aG (o0==false)<|aG ((o0==false)&&((e8.Until != 1)==true))<|aG ((o0==false)&&((e8.Until != 1)==true))<|aC (fun hg:(o0==false)=true=>aC (gi (o0==false))<|aC (fun q:(e8.Until != 1)=true=>(gA hg (gT q)))<|aB q1<|aN)<|aF o0<|aB t1<|aG (t0==false)<|aC (c1 j2 Y1)<|aG (t0==false)<|aF t0<|aB x1<|aG (x0==false)<|aC (c1 k2 JS)<|aG (x0==false)<|aF x0<|aB y1<|aN)<|iC j0 (fun j0=>?_) (fun j0=>?_)
   ·refine Rg [.a] (sl 90 [(2,vB false)] []) (aN)<|hR<|qR<|Tr ?_
    obtain rfl:=j1 _ (sI j0).symm
    replace m0:=EL m0
    exact Tr<|qR<|Tr<|bQ _ (kB m0)
   refine hK<|qN<|Tn<|Ge [.a,.a] (u [] [(38,vI (Ab (n0+1))),(79,vI (Ab (n0+1)))]) (aN)<|Tn ⟨(Ab (n0+1)),(sI j0).symm,wT⟩
  refine hE<|Te ?_
  obtain rfl:=j1 _ (sI j0).symm
  replace m0:=Fa m0
  refine Te<|qX<|Tn ⟨(),m0,wT⟩
 rintro _ p0
 replace p0:FJ a0=some r:=p0
 unfold FJ at p0
 obtain⟨b3,q2,p0⟩:=bS p0
 exact Rg [.a,.a,.a,.a,.a,.a,.a,.a,.a,(.v (vB b3)),.a] (sl 90 [(2,vB b3)] []) (aG ((decide ((a0.Waiting.length:Int)≤64))==true)<|aG ((decide ((a0.Waiting.length:Int)≤64))==true)<|aG ((decide ((a0.Waiting.length:Int)≤64))==true)<|aT (decide ((a0.Waiting.length:Int)≤64))<|aB q2<|aN)<|hR<|bQ _ (kB p0)
def NR (a0:List (Aw)):Option (Bool):=
 (some (if(decide (1≤(a0.length:Int)))=true then decide ((a0.length:Int)≤8)else false)).bind fun b2=>
 some b2
def FL (a0:List (Aw)) (a1:Int) (i_t5_4:Int):Option ((Int)⊕(Unit⊕Unit)):=
 (if(decide (i_t5_4<(a0.length:Int)))=true then
  (idx a0 i_t5_4).bind fun e7=>
  (Rl e7 a1).bind fun r8=>
  (if(!r8)=true then
   some (.inr (.inr ()))
  else
   some (.inl (Ab (i_t5_4+1))))
 else
  some (.inr (.inl ())))
def NS (a0:List (Aw)) (a1:Int):Option (Bool):=
 (iter (fun(v:Int)=>FL a0 a1 v) FU (0:Int)).bind (Sum.elim (fun o0=>NR a0) (fun o1=>some false))
end Go.PL
