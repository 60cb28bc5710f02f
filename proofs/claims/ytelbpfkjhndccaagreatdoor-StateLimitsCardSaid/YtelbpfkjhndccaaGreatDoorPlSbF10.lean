/- Functions of the program, as partial functions in Lean, with proofs. -/
import Derived.Test.YtelbpfkjhndccaaGreatDoorPlSbB
import Derived.Test.YtelbpfkjhndccaaGreatDoorPlSbF0
import Derived.Test.YtelbpfkjhndccaaGreatDoorPlSbF1
import Derived.Test.YtelbpfkjhndccaaGreatDoorPlSbF2
import Derived.Test.YtelbpfkjhndccaaGreatDoorPlSbF4
import Derived.Test.YtelbpfkjhndccaaGreatDoorPlSbF5
import Derived.Test.YtelbpfkjhndccaaGreatDoorPlSbF6
import Derived.Test.YtelbpfkjhndccaaGreatDoorPlSbF8
import Derived.Test.YtelbpfkjhndccaaGreatDoorPlSbF9
namespace Go.PL
open Go Go.RowKit Go.Proofs
set_option maxRecDepth 100000
set_option linter.all false
set_option maxHeartbeats 4000000
attribute [local irreducible] Ai B4 BL
def JJ (a0:List (HW)) (a1:Aj):Option (Bool):=
 (gd ((decide ((a0.length:Int)≤300))==true) (L5 a1)).bind fun r1=>
 (some (if(decide ((a0.length:Int)≤300))=true then r1 else false)).bind fun b2=>
 some b2
def VE (a0:List (HW)) (a1:Aj) (r:Bool):Prop:=Ah Tryz.prog I0 5 [vL JD a0,vA Am a1] (· =vB r)
theorem Uz {a0:List (HW)} {a1:Aj} {r:Bool} (h:JJ a0 a1=some r):VE a0 a1 r:=by
 refine Ah.bo Ag Tryz.func5 rfl Tryz.ntmps5 [.tmp 4] fun _ _ _ _=>?_
 unfold JJ at h
 refine Gg [.a,.a] (uo [1] [(3,vP [3] (0))] [.e (bx [3] (Am a1))]) (aN) ?_
 obtain⟨r1,j0,b2,i0,h⟩:=JX h
 exact Rg [.a,.a,.a,.a,.a,(.c (vB r1)),(.v (vB b2)),.a] (sl 12 [(4,vB b2)] []) (aC (c1 j0 XG)<|aT (decide ((a0.length:Int)≤300))<|aB i0<|aN)<|hR<|bQ _ (kB h)
def FD:Option (Bool):=
 some true
def Da (a0:Aj) (l11_11:List (Int×Int)) (vt78_15:Int):Option ((Int)⊕(Unit⊕Unit)):=
 (if(decide (vt78_15<(a0.Objects.length:Int)))=true then
  (idx a0.Objects vt78_15).bind fun e18=>
  (if((Cn l11_11 e18.Id) != (1:Int))=true then
   some (.inr (.inr ()))
  else
   some (.inl (Ab (vt78_15+1))))
 else
  some (.inr (.inl ())))
def Ey (a0:Aj) (l11_11:List (Int×Int)):Option (Bool):=
 (iter (fun(v:Int)=>Da a0 l11_11 v) FU (0:Int)).bind (Sum.elim (fun o0=>FD) (fun o1=>some false))
def CC (vt59_22:Int) (e27:Bw) (l11_29:List (Int×Int)) (q30:Bool):Option ((Int×(List (Int×Int)))⊕((List (Int×Int))⊕Unit)):=
 (some (if(e27.Kind==1)=true then !q30 else false)).bind fun b32=>
 (if b32=true then
  some (.inr (.inr ()))
 else
  some (.inl ((Ab (vt59_22+1)),l11_29)))
def FE (vt59_22:Int) (e27:Bw) (l11_34:List (Int×Int)):Option ((Int×(List (Int×Int)))⊕((List (Int×Int))⊕Unit)):=
 CC vt59_22 e27 l11_34 true
def Cc (a0:Aj) (e27:Bw) (vt15_38:Int) (l11_39:List (Int×Int)):Option ((Int×(List (Int×Int)))⊕((List (Int×Int))⊕(List (Int×Int)))):=
 (if(decide (vt15_38<(([e27.Id]:List (Int)).length :Int)))=true then
  (idx ([e27.Id]:List (Int)) vt15_38).bind fun e44=>
  (Cv a0 e44).bind fun r45=>
  (some (if(!r45.2)=true then true else r45.1.Zone != 5)).bind fun b46=>
  (some (if(decide ((0:Int)≤(-1:Int)))=true then r45.1.Owner != (-1:Int)else false)).bind fun b47=>
  (some (if b46=true then true else b47)).bind fun b48=>
  (if b48=true then
   some (.inr (.inr l11_39))
  else
   some (.inl ((Ab (vt15_38+1)),(GE l11_39 e44 (Ab ((Cn l11_39 e44)+(1:Int)))))))
 else
  some (.inr (.inl l11_39)))
def Cd (a0:Aj) (vt59_22:Int) (l11_23:List (Int×Int)):Option ((Int×(List (Int×Int)))⊕((List (Int×Int))⊕Unit)):=
 (if(decide (vt59_22<(a0.Stack.length:Int)))=true then
  (idx a0.Stack vt59_22).bind fun e27=>
  (if((e27.Kind==1)==true)=true then
   (iter (fun(v:Int×(List (Int×Int)))=>Cc a0 e27 v.1 v.2) FU ((0:Int),l11_23)).bind (Sum.elim (fun o0=>FE vt59_22 e27 o0) (fun o1=>CC vt59_22 e27 o1 false))
  else
   CC vt59_22 e27 l11_23 false)
 else
  some (.inr (.inl l11_23)))
def Ez (a0:Aj) (l11_9:List (Int×Int)):Option (Bool):=
 (iter (fun(v:Int×(List (Int×Int)))=>Cd a0 v.1 v.2) FU ((0:Int),l11_9)).bind (Sum.elim (fun o0=>Ey a0 o0) (fun o1=>some false))
def Db (vt28_52:Int) (b64:Bool) (l11_65:List (Int×Int)) (q66:Bool):Option ((Int×(List (Int×Int)))⊕((List (Int×Int))⊕Unit)):=
 (some (if b64=true then true else !q66)).bind fun b68=>
 (if b68=true then
  some (.inr (.inr ()))
 else
  some (.inl ((Ab (vt28_52+1)),l11_65)))
def HE (vt28_52:Int) (b64:Bool) (l11_70:List (Int×Int)):Option ((Int×(List (Int×Int)))⊕((List (Int×Int))⊕Unit)):=
 Db vt28_52 b64 l11_70 true
def Ce (a0:Aj) (vt28_52:Int) (e57:Au) (vt15_74:Int) (l11_75:List (Int×Int)):Option ((Int×(List (Int×Int)))⊕((List (Int×Int))⊕(List (Int×Int)))):=
 (if(decide (vt15_74<(e57.Graveyard.length:Int)))=true then
  (idx e57.Graveyard vt15_74).bind fun e80=>
  (Cv a0 e80).bind fun r81=>
  (some (if(!r81.2)=true then true else r81.1.Zone != 3)).bind fun b82=>
  (some (if(decide (0≤vt28_52))=true then r81.1.Owner != vt28_52 else false)).bind fun b83=>
  (some (if b82=true then true else b83)).bind fun b84=>
  (if b84=true then
   some (.inr (.inr l11_75))
  else
   some (.inl ((Ab (vt15_74+1)),(GE l11_75 e80 (Ab ((Cn l11_75 e80)+(1:Int)))))))
 else
  some (.inr (.inl l11_75)))
def Cf (a0:Aj) (vt28_52:Int) (e57:Au) (vt37_58:Bool) (l11_61:List (Int×Int)) (q62:Bool):Option ((Int×(List (Int×Int)))⊕((List (Int×Int))⊕Unit)):=
 (some (if(!vt37_58)=true then true else !q62)).bind fun b64=>
 (if(b64==false)=true then
  (iter (fun(v:Int×(List (Int×Int)))=>Ce a0 vt28_52 e57 v.1 v.2) FU ((0:Int),l11_61)).bind (Sum.elim (fun o0=>HE vt28_52 b64 o0) (fun o1=>Db vt28_52 b64 o1 false))
 else
  Db vt28_52 b64 l11_61 false)
def FF (a0:Aj) (vt28_52:Int) (e57:Au) (vt37_58:Bool) (l11_86:List (Int×Int)):Option ((Int×(List (Int×Int)))⊕((List (Int×Int))⊕Unit)):=
 Cf a0 vt28_52 e57 vt37_58 l11_86 true
def Cg (a0:Aj) (vt28_52:Int) (e57:Au) (vt15_90:Int) (l11_91:List (Int×Int)):Option ((Int×(List (Int×Int)))⊕((List (Int×Int))⊕(List (Int×Int)))):=
 (if(decide (vt15_90<(e57.Hand.length:Int)))=true then
  (idx e57.Hand vt15_90).bind fun e96=>
  (Cv a0 e96).bind fun r97=>
  (some (if(!r97.2)=true then true else r97.1.Zone != 1)).bind fun b98=>
  (some (if(decide (0≤vt28_52))=true then r97.1.Owner != vt28_52 else false)).bind fun b99=>
  (some (if b98=true then true else b99)).bind fun b100=>
  (if b100=true then
   some (.inr (.inr l11_91))
  else
   some (.inl ((Ab (vt15_90+1)),(GE l11_91 e96 (Ab ((Cn l11_91 e96)+(1:Int)))))))
 else
  some (.inr (.inl l11_91)))
def DM (a0:Aj) (vt28_52:Int) (e57:Au) (vt37_58:Bool) (l11_59:List (Int×Int)):Option ((Int×(List (Int×Int)))⊕((List (Int×Int))⊕Unit)):=
 (if((!vt37_58)==false)=true then
  (iter (fun(v:Int×(List (Int×Int)))=>Cg a0 vt28_52 e57 v.1 v.2) FU ((0:Int),l11_59)).bind (Sum.elim (fun o0=>FF a0 vt28_52 e57 vt37_58 o0) (fun o1=>Cf a0 vt28_52 e57 vt37_58 o1 false))
 else
  Cf a0 vt28_52 e57 vt37_58 l11_59 false)
def E5 (a0:Aj) (vt28_52:Int) (e57:Au) (l11_102:List (Int×Int)):Option ((Int×(List (Int×Int)))⊕((List (Int×Int))⊕Unit)):=
 DM a0 vt28_52 e57 true l11_102
def BX (a0:Aj) (vt28_52:Int) (e57:Au) (vt15_106:Int) (l11_107:List (Int×Int)):Option ((Int×(List (Int×Int)))⊕((List (Int×Int))⊕(List (Int×Int)))):=
 (if(decide (vt15_106<(e57.Library.length:Int)))=true then
  (idx e57.Library vt15_106).bind fun e112=>
  (Cv a0 e112).bind fun r113=>
  (some (if(!r113.2)=true then true else r113.1.Zone != 2)).bind fun b114=>
  (some (if(decide (0≤vt28_52))=true then r113.1.Owner != vt28_52 else false)).bind fun b115=>
  (some (if b114=true then true else b115)).bind fun b116=>
  (if b116=true then
   some (.inr (.inr l11_107))
  else
   some (.inl ((Ab (vt15_106+1)),(GE l11_107 e112 (Ab ((Cn l11_107 e112)+(1:Int)))))))
 else
  some (.inr (.inl l11_107)))
def Ch (a0:Aj) (vt28_52:Int) (l11_53:List (Int×Int)):Option ((Int×(List (Int×Int)))⊕((List (Int×Int))⊕Unit)):=
 (if(decide (vt28_52<(a0.Players.length:Int)))=true then
  (idx a0.Players vt28_52).bind fun e57=>
  (iter (fun(v:Int×(List (Int×Int)))=>BX a0 vt28_52 e57 v.1 v.2) FU ((0:Int),l11_53)).bind (Sum.elim (fun o0=>E5 a0 vt28_52 e57 o0) (fun o1=>DM a0 vt28_52 e57 false o1))
 else
  some (.inr (.inl l11_53)))
def CZ (a0:Aj) (vt16_1:Bool) (l11_4:List (Int×Int)) (q5:Bool):Option (Bool):=
 (some (if(!vt16_1)=true then true else !q5)).bind fun b7=>
 (if b7=true then
  some false
 else
  (iter (fun(v:Int×(List (Int×Int)))=>Ch a0 v.1 v.2) FU ((0:Int),l11_4)).bind (Sum.elim (fun o0=>Ez a0 o0) (fun o1=>some false)))
def E6 (a0:Aj) (vt16_1:Bool) (l11_118:List (Int×Int)):Option (Bool):=
 CZ a0 vt16_1 l11_118 true
def BY (a0:Aj) (vt15_122:Int) (l11_123:List (Int×Int)):Option ((Int×(List (Int×Int)))⊕((List (Int×Int))⊕(List (Int×Int)))):=
 (if(decide (vt15_122<(a0.Exile.length:Int)))=true then
  (idx a0.Exile vt15_122).bind fun e128=>
  (Cv a0 e128).bind fun r129=>
  (some (if(!r129.2)=true then true else r129.1.Zone != 4)).bind fun b130=>
  (some (if(decide ((0:Int)≤(-1:Int)))=true then r129.1.Owner != (-1:Int)else false)).bind fun b131=>
  (some (if b130=true then true else b131)).bind fun b132=>
  (if b132=true then
   some (.inr (.inr l11_123))
  else
   some (.inl ((Ab (vt15_122+1)),(GE l11_123 e128 (Ab ((Cn l11_123 e128)+(1:Int)))))))
 else
  some (.inr (.inl l11_123)))
def D9 (a0:Aj) (vt16_1:Bool) (l11_2:List (Int×Int)):Option (Bool):=
 (if((!vt16_1)==false)=true then
  (iter (fun(v:Int×(List (Int×Int)))=>BY a0 v.1 v.2) FU ((0:Int),l11_2)).bind (Sum.elim (fun o0=>E6 a0 vt16_1 o0) (fun o1=>CZ a0 vt16_1 o1 false))
 else
  CZ a0 vt16_1 l11_2 false)
def E7 (a0:Aj) (l11_134:List (Int×Int)):Option (Bool):=
 D9 a0 true l11_134
def BZ (a0:Aj) (vt15_138:Int) (l11_139:List (Int×Int)):Option ((Int×(List (Int×Int)))⊕((List (Int×Int))⊕(List (Int×Int)))):=
 (if(decide (vt15_138<(a0.Battlefield.length:Int)))=true then
  (idx a0.Battlefield vt15_138).bind fun e144=>
  (Cv a0 e144).bind fun r145=>
  (some (if(!r145.2)=true then true else r145.1.Zone != 0)).bind fun b146=>
  (some (if(decide ((0:Int)≤(-1:Int)))=true then r145.1.Owner != (-1:Int)else false)).bind fun b147=>
  (some (if b146=true then true else b147)).bind fun b148=>
  (if b148=true then
   some (.inr (.inr l11_139))
  else
   some (.inl ((Ab (vt15_138+1)),(GE l11_139 e144 (Ab ((Cn l11_139 e144)+(1:Int)))))))
 else
  some (.inr (.inl l11_139)))
def HF (a0:Aj):Option (Bool):=
 (iter (fun(v:Int×(List (Int×Int)))=>BZ a0 v.1 v.2) FU ((0:Int),([]:List (Int×Int)))).bind (Sum.elim (fun o0=>E7 a0 o0) (fun o1=>D9 a0 false o1))
def UA (a0:Aj) (r:Bool):Prop:=Ah Tryz.prog I0 17 [vA Am a0] (· =vB r)
theorem Sp {a0:Aj} {r:Bool} (h:HF a0=some r):UA a0 r:=by
 refine Ah.bo Ag Tryz.func17 rfl Tryz.ntmps17 [.tmp 2] fun _ _ _ _=>?_
 unfold HF at h
 refine Rg [.a,.a] (sl 88 [(1,vP [1] (0))] [bx [1] (Am a0)]) (aN)<|hS<|hO<|Gp 0 [] (u [] []) (aN)<|Run.inl rfl rfl (EB.mkMap 11 rfl rfl ?_)
 refine Gw [.a,.a] (uo [] [(3,vP [3] (0))] [.e (bx [3] [.mref [11]]),.k 0,.k 1]) (aN)<|Tn<|Gg [.a,.a] (u [11] [(4,.c (.clo 43 [.ptr [1] (0),.ptr [3] (0)]))]) (aC (show True∧(True∧True)from⟨trivial,⟨trivial,trivial⟩⟩)<|aN)<|hS<|hS<|hO<|Gp 3 (nA 3) (u [] [(13,.c (.clo 43 [.ptr [1] (0),.ptr [3] (0)])),(14,vP [1] (2)),(15,vL (eI .i64) a0.Battlefield)]) (aN)<|Nj (X:=Bool×(List (Int×Int))) (fun v=>(uo [13,14,15] [(16,vB v.1)] [.k 0,.e (⟨[11],none,[.mp v.2],false⟩),.k 2])) (fun v=>D9 a0 v.1 v.2=some r) rfl rfl ?_ ?_
 ·refine Ei 16 [vI 0,vI (-1:Int),vL (eI .i64) a0.Battlefield] [.ptr [1] (0),.ptr [3] (0)] Tryz.func43 Tryz.ntmps43 [.tmp 8] rfl rfl rfl rfl fun _ _ _ _=>Gg [.a] (u [] []) (aN)<|Sj (X:=(List (Int×Int))) (fun v=>(sg 48 [] [bx [3] [.mref [11]],⟨[11],none,[.mp v],false⟩,bx [1] (Am a0)] 88 [(1,vP [1] (0)),(3,vP [3] (0)),(4,.c (.clo 43 [.ptr [1] (0),.ptr [3] (0)])),(13,.c (.clo 43 [.ptr [1] (0),.ptr [3] (0)])),(14,vP [1] (2)),(15,vL (eI .i64) a0.Battlefield)] [16])) (fun v=>E7 a0 v=some r) ?_ ?_
  ·refine Rg (nA 3) (sg 48 [(0,vI 0),(1,vI (-1:Int)),(3,vP [1] (0)),(4,vP [3] (0)),(13,vL (eI .i64) a0.Battlefield),(14,vI (a0.Battlefield.length:Int)),(15,vI 0)] [bx [3] [.mref [11]],⟨[11],none,[.mp ([]:List (Int×Int))],false⟩,bx [1] (Am a0)] 88 [(1,vP [1] (0)),(3,vP [3] (0)),(4,.c (.clo 43 [.ptr [1] (0),.ptr [3] (0)])),(13,.c (.clo 43 [.ptr [1] (0),.ptr [3] (0)])),(14,vP [1] (2)),(15,vL (eI .i64) a0.Battlefield)] [16]) (aN)<|hB ?_
   obtain⟨m12,t8,h⟩:=bS h
   refine Gi (fun(v:Int×(List (Int×Int)))=>(uo [] [(15,vI v.1)] [.k 0,.e (⟨[11],none,[.mp v.2],false⟩),.k 2])) t8 (wT) ?_
   rintro⟨m2,y0⟩ o10 t0 k6
   replace t0:BZ a0 m2 y0=some o10:=t0
   unfold BZ at t0
   refine Gg [.a] (u [] [(16,vB (decide (m2<(a0.Battlefield.length:Int))))]) (aN)<|hS<|iC t0 (fun t0=>?_) (fun t0=>?_)
   ·refine hK<|Tn<|hS<|hB ?_
    obtain⟨p1,k7,t0⟩:=bS t0
    refine Gg [.a,(.v (vI p1)),.a] (u [16] [(10,vI p1)]) (aC (Bm k7)<|aC (GN k7 (I1 .i64) 0 1 false (vI p1))<|aC (Eq.refl (vI p1))<|aN) ?_
    obtain⟨k4,lV,t0⟩:=bS t0
    refine Gg [.a,.a,(.c (.tup [vA Ac k4.1,vB k4.2])),.a,.a,.a,.a,.a,.a] (uo [] [(11,vP [11,16] (0)),(12,vB k4.2)] [.e (bx [11,16] (Ac k4.1)),.k 0,.k 1,.k 2]) (aC (Dq lV)<|aC (show True∧0<[V.undef,V.undef].length from⟨trivial,(by decide)⟩)<|aC (show True∧1<[V.undef,V.undef].length from⟨trivial,(by decide)⟩)<|aN)<|hS ?_
    obtain⟨t3,m9,t10,n9,d7,o9,t0⟩:=M9 t0
    refine Gg [.a,.a,.a,.a,.a,.a,.a,(.v (vB t3)),.a,.a,.a,.a,.a,.a,.a,.a,(.v (vB t10)),(.v (vB d7))] (uo [11,12] [(42,vB d7)] [.k 1,.k 2,.k 3]) (aG ((!k4.2)==false)<|aH ((!k4.2)==false)<|aF (!k4.2)<|aB m9<|aG (t3==false)<|aG (t3==false)<|aG ((t3==false)&&((decide ((0:Int)≤(-1:Int)))==true))<|aH ((t3==false)&&((decide ((0:Int)≤(-1:Int)))==true))<|aC (fun hg:(t3==false)=true=>aC (gi (t3==false))<|aC (fun q:(decide ((0:Int)≤(-1:Int)))=true=>(gA hg (gT q)))<|aB n9<|aN)<|aF t3<|aB o9<|aN)<|iC t0 (fun t0=>?_) (fun t0=>?_)
    ·refine Gg [.a] (u [0,1,3,4,10,13,14,15,42] [(8,vB false)]) (aN)<|hR<|Tr<|qR<|Tr ?_
     obtain rfl:=k6 _ (sI t0).symm
     replace h:=EL h
     refine Tr<|qR<|Tr<|nR (vB false) ⟨(false,y0),h,lT⟩
    refine hK<|Tn<|hO<|Gp 2 [.a,.a] (u [] [(43,.c (.mref [11])),(44,vI p1)]) (aN)<|Run.inl rfl rfl (EB.mapGet (id:=[11]) (kv:=y0) (n:=p1) rfl ?_)
    refine Gp 1 [.a] (u [] [(46,vI (Ab ((Cn y0 p1)+(1:Int))))]) (aN)<|Run.inl rfl rfl (EB.mapSet (id:=[11]) (kv:=y0) (n:=p1) (z:=(Ab ((Cn y0 p1)+(1:Int)))) rfl rfl ?_)
    refine Rw [] (sg 48 [(0,vI 0),(1,vI (-1:Int)),(3,vP [1] (0)),(4,vP [3] (0)),(10,vI p1),(13,vL (eI .i64) a0.Battlefield),(14,vI (a0.Battlefield.length:Int)),(15,vI m2),(42,vB d7),(43,.c (.mref [11])),(44,vI p1),(45,vI (Cn y0 p1)),(46,vI (Ab ((Cn y0 p1)+(1:Int))))] [bx [3] [.mref [11]],⟨[11],none,[.mp (GE y0 p1 (Ab ((Cn y0 p1)+(1:Int))))],false⟩,bx [1] (Am a0)] 88 [(1,vP [1] (0)),(3,vP [3] (0)),(4,.c (.clo 43 [.ptr [1] (0),.ptr [3] (0)])),(13,.c (.clo 43 [.ptr [1] (0),.ptr [3] (0)])),(14,vP [1] (2)),(15,vL (eI .i64) a0.Battlefield)] [16]) (aN)<|qN<|Tn<|Ge [.a,.a] (u [] [(15,vI (Ab (m2+1))),(47,vI (Ab (m2+1)))]) (aN)<|Tn ⟨((Ab (m2+1)),(GE y0 p1 (Ab ((Cn y0 p1)+(1:Int))))),(sI t0).symm,wT⟩
   refine hE<|Te ?_
   obtain rfl:=k6 _ (sI t0).symm
   replace h:=Fa h
   refine Te<|qX<|Tn ⟨y0,h,wT⟩
  rintro p5 x4
  replace x4:E7 a0 p5=some r:=x4
  unfold E7 at x4
  refine Gg [.a] (u [] [(8,vB true)]) (aN)<|hR<|nR (vB true) ⟨(true,p5),x4,lT⟩
 rintro⟨m0,d6⟩ p2
 replace p2:D9 a0 m0 d6=some r:=p2
 unfold D9 at p2
 refine Gp 5 (nA 5) (u [] [(17,vB (!m0)),(18,vB (!m0)),(19,.g ((!m0)==false) (.c (.clo 43 [.ptr [1] (0),.ptr [3] (0)]))),(20,.g ((!m0)==false) (vP [1] (3))),(21,.g ((!m0)==false) (vL (eI .i64) a0.Exile))]) (aG ((!m0)==false)<|aN)<|Ng (X:=(List (Int×Int))×Bool) (g:=((!m0)==false)) (fun v=>(uo [16,17,19,20,21] [(22,.g ((!m0)==false) (vB v.2))] [.k 0,.e (⟨[11],none,[.mp v.1],false⟩),.k 2])) (fun v=>CZ a0 m0 v.1 v.2=some r) 22 rfl rfl rfl (fun y4=>?_) (fun y4=>?_) ?_
 ·replace p2:=iT p2 y4
  refine EB.ung (x:= .c (.clo 43 [.ptr [1] (0),.ptr [3] (0)])) 19 y4<|EB.ung (x:=vL (eI .i64) a0.Exile) 21 y4<|Ei 22 [vI 4,vI (-1:Int),vL (eI .i64) a0.Exile] [.ptr [1] (0),.ptr [3] (0)] Tryz.func43 Tryz.ntmps43 [.tmp 8] rfl rfl rfl rfl fun _ _ _ _=>Rg [.a] (sg 48 [(0,vI 4),(1,vI (-1:Int)),(2,vL (eI .i64) a0.Exile),(3,vP [1] (0)),(4,vP [3] (0))] [bx [3] [.mref [11]],⟨[11],none,[.mp d6],false⟩,bx [1] (Am a0)] 88 [(1,vP [1] (0)),(3,vP [3] (0)),(4,.c (.clo 43 [.ptr [1] (0),.ptr [3] (0)])),(16,vB m0),(17,vB (!m0)),(18,vB (!m0)),(19,.c (.clo 43 [.ptr [1] (0),.ptr [3] (0)])),(20,.g ((!m0)==false) (vP [1] (3))),(21,vL (eI .i64) a0.Exile)] [22]) (aN)<|Gj (X:=(List (Int×Int))) (fun v=>(uo [0,1,2,3,4] [] [.k 0,.e (⟨[11],none,[.mp v],false⟩),.k 2])) (fun v=>E6 a0 m0 v=some r) ?_ ?_
  ·refine Gg (nA 3) (u [2] [(13,vL (eI .i64) a0.Exile),(14,vI (a0.Exile.length:Int)),(15,vI 0)]) (aN)<|hB ?_
   obtain⟨k12,q8,p2⟩:=bS p2
   refine Gi (fun(v:Int×(List (Int×Int)))=>(uo [] [(15,vI v.1)] [.k 0,.e (⟨[11],none,[.mp v.2],false⟩),.k 2])) q8 (wT) ?_
   rintro⟨k2,m1⟩ n10 q0 j6
   replace q0:BY a0 k2 m1=some n10:=q0
   unfold BY at q0
   refine Gg [.a] (u [] [(16,vB (decide (k2<(a0.Exile.length:Int))))]) (aN)<|hS<|iC q0 (fun q0=>?_) (fun q0=>?_)
   ·refine hK<|Tn<|hS<|hB ?_
    obtain⟨i2,j7,q0⟩:=bS q0
    refine Gg [.a,(.v (vI i2)),.a] (u [16] [(10,vI i2)]) (aC (Bm j7)<|aC (GN j7 (I1 .i64) 0 1 false (vI i2))<|aC (Eq.refl (vI i2))<|aN) ?_
    obtain⟨j4,i10,q0⟩:=bS q0
    refine Gg [.a,.a,(.c (.tup [vA Ac j4.1,vB j4.2])),.a,.a,.a,.a,.a,.a] (uo [] [(11,vP [11,22] (0)),(12,vB j4.2)] [.e (bx [11,22] (Ac j4.1)),.k 0,.k 1,.k 2]) (aC (Dq i10)<|aC (show True∧0<[V.undef,V.undef].length from⟨trivial,(by decide)⟩)<|aC (show True∧1<[V.undef,V.undef].length from⟨trivial,(by decide)⟩)<|aN)<|hS ?_
    obtain⟨q3,i9,q10,j9,z6,k9,q0⟩:=M9 q0
    refine Gg [.a,.a,.a,.a,.a,.a,.a,(.v (vB q3)),.a,.a,.a,.a,.a,.a,.a,.a,(.v (vB q10)),(.v (vB z6))] (uo [11,12] [(42,vB z6)] [.k 1,.k 2,.k 3]) (aG ((!j4.2)==false)<|aH ((!j4.2)==false)<|aF (!j4.2)<|aB i9<|aG (q3==false)<|aG (q3==false)<|aG ((q3==false)&&((decide ((0:Int)≤(-1:Int)))==true))<|aH ((q3==false)&&((decide ((0:Int)≤(-1:Int)))==true))<|aC (fun hg:(q3==false)=true=>aC (gi (q3==false))<|aC (fun q:(decide ((0:Int)≤(-1:Int)))=true=>(gA hg (gT q)))<|aB j9<|aN)<|aF q3<|aB k9<|aN)<|iC q0 (fun q0=>?_) (fun q0=>?_)
    ·refine Gg [.a] (u [0,1,3,4,10,13,14,15,42] [(8,vB false)]) (aN)<|hR<|Tr<|qR<|Tr ?_
     obtain rfl:=j6 _ (sI q0).symm
     replace p2:=EL p2
     refine Tr<|qR<|Tr<|nR (vB false) ⟨(m1,false),p2,lT⟩
    refine hK<|Tn<|hO<|Gp 2 [.a,.a] (u [] [(43,.c (.mref [11])),(44,vI i2)]) (aN)<|Run.inl rfl rfl (EB.mapGet (id:=[11]) (kv:=m1) (n:=i2) rfl ?_)
    refine Rp 1 [.a] (sg 48 [(0,vI 4),(1,vI (-1:Int)),(3,vP [1] (0)),(4,vP [3] (0)),(10,vI i2),(13,vL (eI .i64) a0.Exile),(14,vI (a0.Exile.length:Int)),(15,vI k2),(42,vB z6),(43,.c (.mref [11])),(44,vI i2),(45,vI (Cn m1 i2)),(46,vI (Ab ((Cn m1 i2)+(1:Int))))] [bx [3] [.mref [11]],⟨[11],none,[.mp m1],false⟩,bx [1] (Am a0)] 88 [(1,vP [1] (0)),(3,vP [3] (0)),(4,.c (.clo 43 [.ptr [1] (0),.ptr [3] (0)])),(16,vB m0),(17,vB (!m0)),(18,vB (!m0)),(19,.c (.clo 43 [.ptr [1] (0),.ptr [3] (0)])),(20,.g ((!m0)==false) (vP [1] (3))),(21,vL (eI .i64) a0.Exile)] [22]) (aN)<|Run.inl rfl rfl (EB.mapSet (id:=[11]) (kv:=m1) (n:=i2) (z:=(Ab ((Cn m1 i2)+(1:Int)))) rfl rfl ?_)
    refine Gw [] (u [] []) (aN)<|qN<|Tn<|Ge [.a,.a] (u [] [(15,vI (Ab (k2+1))),(47,vI (Ab (k2+1)))]) (aN)<|Tn ⟨((Ab (k2+1)),(GE m1 i2 (Ab ((Cn m1 i2)+(1:Int))))),(sI q0).symm,wT⟩
   refine hE<|Te ?_
   obtain rfl:=j6 _ (sI q0).symm
   replace p2:=Fa p2
   refine Te<|qX<|Tn ⟨m1,p2,wT⟩
  rintro o5 t4
  replace t4:E6 a0 m0 o5=some r:=t4
  unfold E6 at t4
  refine Gg [.a] (u [] [(8,vB true)]) (aN)<|hR<|nR (vB true) ⟨(o5,true),t4,lT⟩
 ·replace p2:=iF p2 y4
  exact⟨(d6,false),vB false,p2,lT⟩
 rintro⟨x7,q5⟩ o2
 replace o2:CZ a0 m0 x7 q5=some r:=o2
 unfold CZ at o2
 obtain⟨b7,hb7,o2⟩:=bS o2
 refine Rw [.a,(.v (vB b7))] (sl 88 [(1,vP [1] (0)),(3,vP [3] (0)),(4,.c (.clo 43 [.ptr [1] (0),.ptr [3] (0)])),(18,vB (!m0)),(22,.g ((!m0)==false) (vB q5)),(23,.g ((!m0)==false) (vB (!q5))),(24,vB b7)] [bx [3] [.mref [11]],⟨[11],none,[.mp x7],false⟩,bx [1] (Am a0)]) (aG ((!m0)==false)<|aF (!m0)<|aB hb7<|aN)<|Tn<|iC o2 (fun o2=>?_) (fun o2=>?_)
 ·exact Rg [.a] (sl 88 [(2,vB false)] []) (aN)<|hR<|Tr<|bQ _ (kB o2)
 refine hK<|Tn<|Gj (X:=(List (Int×Int))) (fun v=>(uo [18,22,23,24] [] [.k 0,.e (⟨[11],none,[.mp v],false⟩),.k 2])) (fun v=>Ez a0 v=some r) ?_ ?_
 ·refine Gg (nA 4) (u [18,22,23,24] [(26,vL Ad a0.Players),(27,vI (a0.Players.length:Int)),(28,vI 0)]) (aN)<|hB ?_
  obtain⟨q12,x9,o2⟩:=bS o2
  refine Gi (fun(v:Int×(List (Int×Int)))=>(uo [] [(28,vI v.1)] [.k 0,.e (⟨[11],none,[.mp v.2],false⟩),.k 2])) x9 (wT) ?_
  rintro⟨i0,z4⟩ n2 j1 p7
  replace j1:Ch a0 i0 z4=some n2:=j1
  unfold Ch at j1
  refine Gg [.a] (u [] [(29,vB (decide (i0<(a0.Players.length:Int))))]) (aN)<|hS<|iC j1 (fun j1=>?_) (fun j1=>?_)
  ·refine hK<|Tn<|hS<|hB ?_
   obtain⟨n0,k8,j1⟩:=bS j1
   refine Gg [.a,.a,(.v (vA Ad n0)),.a,.a,.a] (uo [29] [(5,vI i0),(6,vP [6] (0))] [.e (bx [6] (Ad n0)),.k 0,.k 1,.k 2]) (aC (Bm k8)<|aC (GN k8 C1 0 14 true (vA Ad n0))<|aC (Eq.refl (vA Ad n0))<|aN)<|hS<|hO<|Gp 4 (nA 4) (u [] [(33,.c (.clo 43 [.ptr [1] (0),.ptr [3] (0)])),(34,vI i0),(35,vP [6] (11)),(36,vL (eI .i64) n0.Library)]) (aN)<|Nj (X:=Bool×(List (Int×Int))) (fun v=>(uo [33,34,35,36] [(37,vB v.1)] [.k 0,.k 1,.e (⟨[11],none,[.mp v.2],false⟩),.k 3])) (fun v=>DM a0 i0 n0 v.1 v.2=some n2) rfl rfl ?_ ?_
   ·refine Ei 37 [vI 2,vI i0,vL (eI .i64) n0.Library] [.ptr [1] (0),.ptr [3] (0)] Tryz.func43 Tryz.ntmps43 [.tmp 8] rfl rfl rfl rfl fun _ _ _ _=>Rg [.a] (sg 48 [(0,vI 2),(1,vI i0),(2,vL (eI .i64) n0.Library),(3,vP [1] (0)),(4,vP [3] (0))] [bx [6] (Ad n0),bx [3] [.mref [11]],⟨[11],none,[.mp z4],false⟩,bx [1] (Am a0)] 88 [(1,vP [1] (0)),(3,vP [3] (0)),(4,.c (.clo 43 [.ptr [1] (0),.ptr [3] (0)])),(5,vI i0),(6,vP [6] (0)),(26,vL Ad a0.Players),(27,vI (a0.Players.length:Int)),(28,vI i0),(33,.c (.clo 43 [.ptr [1] (0),.ptr [3] (0)])),(34,vI i0),(35,vP [6] (11)),(36,vL (eI .i64) n0.Library)] [37]) (aN)<|Gj (X:=(List (Int×Int))) (fun v=>(uo [0,1,2,3,4] [] [.k 0,.k 1,.e (⟨[11],none,[.mp v],false⟩),.k 3])) (fun v=>E5 a0 i0 n0 v=some n2) ?_ ?_
    ·refine Gg (nA 3) (u [2] [(13,vL (eI .i64) n0.Library),(14,vI (n0.Library.length:Int)),(15,vI 0)]) (aN)<|hB ?_
     obtain⟨ou,p8,j1⟩:=bS j1
     refine Gi (fun(v:Int×(List (Int×Int)))=>(uo [] [(15,vI v.1)] [.k 0,.k 1,.e (⟨[11],none,[.mp v.2],false⟩),.k 3])) p8 (wT) ?_
     rintro⟨j2,k1⟩ m10 p0 i6
     replace p0:BX a0 i0 n0 j2 k1=some m10:=p0
     unfold BX at p0
     refine Gg [.a] (u [] [(16,vB (decide (j2<(n0.Library.length:Int))))]) (aN)<|hS<|iC p0 (fun p0=>?_) (fun p0=>?_)
     ·refine hK<|Tn<|hS<|hB ?_
      obtain⟨d2,i7,p0⟩:=bS p0
      refine Gg [.a,(.v (vI d2)),.a] (u [16] [(10,vI d2)]) (aC (Bm i7)<|aC (GN i7 (I1 .i64) 0 1 false (vI d2))<|aC (Eq.refl (vI d2))<|aN) ?_
      obtain⟨i4,d10,p0⟩:=bS p0
      refine Gg [.a,.a,(.c (.tup [vA Ac i4.1,vB i4.2])),.a,.a,.a,.a,.a,.a] (uo [] [(11,vP [11,37] (0)),(12,vB i4.2)] [.e (bx [11,37] (Ac i4.1)),.k 0,.k 1,.k 2,.k 3]) (aC (Dq d10)<|aC (show True∧0<[V.undef,V.undef].length from⟨trivial,(by decide)⟩)<|aC (show True∧1<[V.undef,V.undef].length from⟨trivial,(by decide)⟩)<|aN)<|hS ?_
      obtain⟨p3,y8,p10,z8,y6,d9,p0⟩:=M9 p0
      refine Gg [.a,.a,.a,.a,.a,.a,.a,(.v (vB p3)),.a,.a,.a,.a,.a,.a,.a,.a,(.v (vB p10)),(.v (vB y6))] (uo [11,12] [(42,vB y6)] [.k 1,.k 2,.k 3,.k 4]) (aG ((!i4.2)==false)<|aH ((!i4.2)==false)<|aF (!i4.2)<|aB y8<|aG (p3==false)<|aG (p3==false)<|aG ((p3==false)&&((decide (0≤i0))==true))<|aH ((p3==false)&&((decide (0≤i0))==true))<|aC (fun hg:(p3==false)=true=>aC (gi (p3==false))<|aC (fun q:(decide (0≤i0))=true=>(gA hg (gT q)))<|aB z8<|aN)<|aF p3<|aB d9<|aN)<|iC p0 (fun p0=>?_) (fun p0=>?_)
      ·refine Gg [.a] (u [0,1,3,4,10,13,14,15,42] [(8,vB false)]) (aN)<|hR<|Tr<|qR<|Tr ?_
       obtain rfl:=i6 _ (sI p0).symm
       replace j1:=EL j1
       refine Tr<|qR<|Tr<|nR (vB false) ⟨(false,k1),j1,lT⟩
      refine hK<|Tn<|hO<|Gp 2 [.a,.a] (u [] [(43,.c (.mref [11])),(44,vI d2)]) (aN)<|Run.inl rfl rfl (EB.mapGet (id:=[11]) (kv:=k1) (n:=d2) rfl ?_)
      refine Rp 1 [.a] (sg 48 [(0,vI 2),(1,vI i0),(3,vP [1] (0)),(4,vP [3] (0)),(10,vI d2),(13,vL (eI .i64) n0.Library),(14,vI (n0.Library.length:Int)),(15,vI j2),(42,vB y6),(43,.c (.mref [11])),(44,vI d2),(45,vI (Cn k1 d2)),(46,vI (Ab ((Cn k1 d2)+(1:Int))))] [bx [6] (Ad n0),bx [3] [.mref [11]],⟨[11],none,[.mp k1],false⟩,bx [1] (Am a0)] 88 [(1,vP [1] (0)),(3,vP [3] (0)),(4,.c (.clo 43 [.ptr [1] (0),.ptr [3] (0)])),(5,vI i0),(6,vP [6] (0)),(26,vL Ad a0.Players),(27,vI (a0.Players.length:Int)),(28,vI i0),(33,.c (.clo 43 [.ptr [1] (0),.ptr [3] (0)])),(34,vI i0),(35,vP [6] (11)),(36,vL (eI .i64) n0.Library)] [37]) (aN)<|Run.inl rfl rfl (EB.mapSet (id:=[11]) (kv:=k1) (n:=d2) (z:=(Ab ((Cn k1 d2)+(1:Int)))) rfl rfl ?_)
      refine Gw [] (u [] []) (aN)<|qN<|Tn<|Ge [.a,.a] (u [] [(15,vI (Ab (j2+1))),(47,vI (Ab (j2+1)))]) (aN)<|Tn ⟨((Ab (j2+1)),(GE k1 d2 (Ab ((Cn k1 d2)+(1:Int))))),(sI p0).symm,wT⟩
     refine hE<|Te ?_
     obtain rfl:=i6 _ (sI p0).symm
     replace j1:=Fa j1
     refine Te<|qX<|Tn ⟨k1,j1,wT⟩
    rintro n5 q4
    replace q4:E5 a0 i0 n0 n5=some n2:=q4
    unfold E5 at q4
    refine Gg [.a] (u [] [(8,vB true)]) (aN)<|hR<|nR (vB true) ⟨(true,n5),q4,lT⟩
   rintro⟨j0,d5⟩ x1
   replace x1:DM a0 i0 n0 j0 d5=some n2:=x1
   unfold DM at x1
   refine Gp 6 (nA 6) (u [] [(38,vB (!j0)),(39,vB (!j0)),(40,.g ((!j0)==false) (.c (.clo 43 [.ptr [1] (0),.ptr [3] (0)]))),(41,.g ((!j0)==false) (vI i0)),(42,.g ((!j0)==false) (vP [6] (12))),(43,.g ((!j0)==false) (vL (eI .i64) n0.Hand))]) (aG ((!j0)==false)<|aN)<|Run.inlgJ (X:=(List (Int×Int))×Bool) (g:=((!j0)==false)) (fun v=>(sl 88 [(1,vP [1] (0)),(3,vP [3] (0)),(4,.c (.clo 43 [.ptr [1] (0),.ptr [3] (0)])),(5,vI i0),(6,vP [6] (0)),(26,vL Ad a0.Players),(27,vI (a0.Players.length:Int)),(28,vI i0),(39,vB (!j0)),(44,.g ((!j0)==false) (vB v.2))] [bx [6] (Ad n0),bx [3] [.mref [11]],⟨[11],none,[.mp v.1],false⟩,bx [1] (Am a0)])) (fun v=>Cf a0 i0 n0 j0 v.1 v.2=some n2) 44 rfl rfl rfl (fun y3=>?_) (fun y3=>?_) ?_
   ·replace x1:=iT x1 y3
    refine EB.ung (x:= .c (.clo 43 [.ptr [1] (0),.ptr [3] (0)])) 40 y3<|EB.ung (x:=vI i0) 41 y3<|EB.ung (x:=vL (eI .i64) n0.Hand) 43 y3<|Ei 44 [vI 1,vI i0,vL (eI .i64) n0.Hand] [.ptr [1] (0),.ptr [3] (0)] Tryz.func43 Tryz.ntmps43 [.tmp 8] rfl rfl rfl rfl fun _ _ _ _=>Rg [.a] (sg 48 [(0,vI 1),(1,vI i0),(2,vL (eI .i64) n0.Hand),(3,vP [1] (0)),(4,vP [3] (0))] [bx [6] (Ad n0),bx [3] [.mref [11]],⟨[11],none,[.mp d5],false⟩,bx [1] (Am a0)] 88 [(1,vP [1] (0)),(3,vP [3] (0)),(4,.c (.clo 43 [.ptr [1] (0),.ptr [3] (0)])),(5,vI i0),(6,vP [6] (0)),(26,vL Ad a0.Players),(27,vI (a0.Players.length:Int)),(28,vI i0),(37,vB j0),(38,vB (!j0)),(39,vB (!j0)),(40,.c (.clo 43 [.ptr [1] (0),.ptr [3] (0)])),(41,vI i0),(42,.g ((!j0)==false) (vP [6] (12))),(43,vL (eI .i64) n0.Hand)] [44]) (aN)<|Gj (X:=(List (Int×Int))) (fun v=>(uo [0,1,2,3,4] [] [.k 0,.k 1,.e (⟨[11],none,[.mp v],false⟩),.k 3])) (fun v=>FF a0 i0 n0 j0 v=some n2) ?_ ?_
    ·refine Gg (nA 3) (u [2] [(13,vL (eI .i64) n0.Hand),(14,vI (n0.Hand.length:Int)),(15,vI 0)]) (aN)<|hB ?_
     obtain⟨x12,z9,x1⟩:=bS x1
     refine Gi (fun(v:Int×(List (Int×Int)))=>(uo [] [(15,vI v.1)] [.k 0,.k 1,.e (⟨[11],none,[.mp v.2],false⟩),.k 3])) z9 (wT) ?_
     rintro⟨x2,t1⟩ i12 i1 t7
     replace i1:Cg a0 i0 n0 x2 t1=some i12:=i1
     unfold Cg at i1
     refine Gg [.a] (u [] [(16,vB (decide (x2<(n0.Hand.length:Int))))]) (aN)<|hS<|iC i1 (fun i1=>?_) (fun i1=>?_)
     ·refine hK<|Tn<|hS<|hB ?_
      obtain⟨j3,n8,i1⟩:=bS i1
      refine Gg [.a,(.v (vI j3)),.a] (u [16] [(10,vI j3)]) (aC (Bm n8)<|aC (GN n8 (I1 .i64) 0 1 false (vI j3))<|aC (Eq.refl (vI j3))<|aN) ?_
      obtain⟨k5,x11,i1⟩:=bS i1
      refine Gg [.a,.a,(.c (.tup [vA Ac k5.1,vB k5.2])),.a,.a,.a,.a,.a,.a] (uo [] [(11,vP [11,44] (0)),(12,vB k5.2)] [.e (bx [11,44] (Ac k5.1)),.k 0,.k 1,.k 2,.k 3]) (aC (Dq x11)<|aC (show True∧0<[V.undef,V.undef].length from⟨trivial,(by decide)⟩)<|aC (show True∧1<[V.undef,V.undef].length from⟨trivial,(by decide)⟩)<|aN)<|hS ?_
      obtain⟨p4,o11,b99,p11,x6,x8,i1⟩:=M9 i1
      refine Gg [.a,.a,.a,.a,.a,.a,.a,(.v (vB p4)),.a,.a,.a,.a,.a,.a,.a,.a,(.v (vB b99)),(.v (vB x6))] (uo [11,12] [(42,vB x6)] [.k 1,.k 2,.k 3,.k 4]) (aG ((!k5.2)==false)<|aH ((!k5.2)==false)<|aF (!k5.2)<|aB o11<|aG (p4==false)<|aG (p4==false)<|aG ((p4==false)&&((decide (0≤i0))==true))<|aH ((p4==false)&&((decide (0≤i0))==true))<|aC (fun hg:(p4==false)=true=>aC (gi (p4==false))<|aC (fun q:(decide (0≤i0))=true=>(gA hg (gT q)))<|aB p11<|aN)<|aF p4<|aB x8<|aN)<|iC i1 (fun i1=>?_) (fun i1=>?_)
      ·refine Gg [.a] (u [0,1,3,4,10,13,14,15,42] [(8,vB false)]) (aN)<|hR<|Tr<|qR<|Tr ?_
       obtain rfl:=t7 _ (sI i1).symm
       replace x1:=EL x1
       refine Tr<|qR<|Tr<|nR (vB false) ⟨(t1,false),x1,lT⟩
      refine hK<|Tn<|hO<|Gp 2 [.a,.a] (u [] [(43,.c (.mref [11])),(44,vI j3)]) (aN)<|Run.inl rfl rfl (EB.mapGet (id:=[11]) (kv:=t1) (n:=j3) rfl ?_)
      refine Rp 1 [.a] (sg 48 [(0,vI 1),(1,vI i0),(3,vP [1] (0)),(4,vP [3] (0)),(10,vI j3),(13,vL (eI .i64) n0.Hand),(14,vI (n0.Hand.length:Int)),(15,vI x2),(42,vB x6),(43,.c (.mref [11])),(44,vI j3),(45,vI (Cn t1 j3)),(46,vI (Ab ((Cn t1 j3)+(1:Int))))] [bx [6] (Ad n0),bx [3] [.mref [11]],⟨[11],none,[.mp t1],false⟩,bx [1] (Am a0)] 88 [(1,vP [1] (0)),(3,vP [3] (0)),(4,.c (.clo 43 [.ptr [1] (0),.ptr [3] (0)])),(5,vI i0),(6,vP [6] (0)),(26,vL Ad a0.Players),(27,vI (a0.Players.length:Int)),(28,vI i0),(37,vB j0),(38,vB (!j0)),(39,vB (!j0)),(40,.c (.clo 43 [.ptr [1] (0),.ptr [3] (0)])),(41,vI i0),(42,.g ((!j0)==false) (vP [6] (12))),(43,vL (eI .i64) n0.Hand)] [44]) (aN)<|Run.inl rfl rfl (EB.mapSet (id:=[11]) (kv:=t1) (n:=j3) (z:=(Ab ((Cn t1 j3)+(1:Int)))) rfl rfl ?_)
      refine Gw [] (u [] []) (aN)<|qN<|Tn<|Ge [.a,.a] (u [] [(15,vI (Ab (x2+1))),(47,vI (Ab (x2+1)))]) (aN)<|Tn ⟨((Ab (x2+1)),(GE t1 j3 (Ab ((Cn t1 j3)+(1:Int))))),(sI i1).symm,wT⟩
     refine hE<|Te ?_
     obtain rfl:=t7 _ (sI i1).symm
     replace x1:=Fa x1
     refine Te<|qX<|Tn ⟨t1,x1,wT⟩
    rintro t6 z5
    replace z5:FF a0 i0 n0 j0 t6=some n2:=z5
    unfold FF at z5
    refine Gg [.a] (u [] [(8,vB true)]) (aN)<|hR<|nR (vB true) ⟨(t6,true),z5,lT⟩
   ·replace x1:=iF x1 y3
    exact⟨(d5,false),vB false,x1,lT⟩
   rintro⟨o6,y7⟩ n1
   replace n1:Cf a0 i0 n0 j0 o6 y7=some n2:=n1
   unfold Cf at n1
   obtain⟨z1,i11,n1⟩:=bS n1
   refine Gp 7 [.a,(.v (vB z1)),.a,.a,.a,.a,.a] (u [] [(45,.g ((!j0)==false) (vB (!y7))),(46,vB z1),(47,vB z1),(48,.g (z1==false) (.c (.clo 43 [.ptr [1] (0),.ptr [3] (0)]))),(49,.g (z1==false) (vI i0)),(50,.g (z1==false) (vP [6] (13))),(51,.g (z1==false) (vL (eI .i64) n0.Graveyard))]) (aG ((!j0)==false)<|aF (!j0)<|aB i11<|aG (z1==false)<|aN)<|Ng (X:=(List (Int×Int))×Bool) (g:=(z1==false)) (fun v=>(uo [5,6,39,44,45,46,48,49,50,51] [(52,.g (z1==false) (vB v.2))] [.k 1,.e (⟨[11],none,[.mp v.1],false⟩),.k 3])) (fun v=>Db i0 z1 v.1 v.2=some n2) 52 rfl rfl rfl (fun z3=>?_) (fun z3=>?_) ?_
   ·replace n1:=iT n1 z3
    refine EB.ung (x:= .c (.clo 43 [.ptr [1] (0),.ptr [3] (0)])) 48 z3<|EB.ung (x:=vI i0) 49 z3<|EB.ung (x:=vL (eI .i64) n0.Graveyard) 51 z3<|Ei 52 [vI 3,vI i0,vL (eI .i64) n0.Graveyard] [.ptr [1] (0),.ptr [3] (0)] Tryz.func43 Tryz.ntmps43 [.tmp 8] rfl rfl rfl rfl fun _ _ _ _=>Gg [.a] (u [] []) (aN)<|Gj (X:=(List (Int×Int))) (fun v=>(uo [0,1,2,3,4] [] [.k 0,.k 1,.e (⟨[11],none,[.mp v],false⟩),.k 3])) (fun v=>HE i0 z1 v=some n2) ?_ ?_
    ·refine Gg (nA 3) (u [2] [(13,vL (eI .i64) n0.Graveyard),(14,vI (n0.Graveyard.length:Int)),(15,vI 0)]) (aN)<|hB ?_
     obtain⟨t12,y9,n1⟩:=bS n1
     refine Gi (fun(v:Int×(List (Int×Int)))=>(uo [] [(15,vI v.1)] [.k 0,.k 1,.e (⟨[11],none,[.mp v.2],false⟩),.k 3])) y9 (wT) ?_
     rintro⟨t2,y1⟩ d12 d1 q7
     replace d1:Ce a0 i0 n0 t2 y1=some d12:=d1
     unfold Ce at d1
     refine Gg [.a] (u [] [(16,vB (decide (t2<(n0.Graveyard.length:Int))))]) (aN)<|hS<|iC d1 (fun d1=>?_) (fun d1=>?_)
     ·refine hK<|Tn<|hS<|hB ?_
      obtain⟨x3,m8,d1⟩:=bS d1
      refine Rg [.a,(.v (vI x3)),.a] (sg 48 [(0,vI 3),(1,vI i0),(3,vP [1] (0)),(4,vP [3] (0)),(10,vI x3),(13,vL (eI .i64) n0.Graveyard),(14,vI (n0.Graveyard.length:Int)),(15,vI t2)] [bx [6] (Ad n0),bx [3] [.mref [11]],⟨[11],none,[.mp y1],false⟩,bx [1] (Am a0)] 88 [(1,vP [1] (0)),(3,vP [3] (0)),(4,.c (.clo 43 [.ptr [1] (0),.ptr [3] (0)])),(5,vI i0),(6,vP [6] (0)),(26,vL Ad a0.Players),(27,vI (a0.Players.length:Int)),(28,vI i0),(39,vB (!j0)),(44,.g ((!j0)==false) (vB y7)),(45,.g ((!j0)==false) (vB (!y7))),(46,vB z1),(47,vB z1),(48,.c (.clo 43 [.ptr [1] (0),.ptr [3] (0)])),(49,vI i0),(50,.g (z1==false) (vP [6] (13))),(51,vL (eI .i64) n0.Graveyard)] [52]) (aC (Bm m8)<|aC (GN m8 (I1 .i64) 0 1 false (vI x3))<|aC (Eq.refl (vI x3))<|aN) ?_
      obtain⟨j5,t11,d1⟩:=bS d1
      refine Gg [.a,.a,(.c (.tup [vA Ac j5.1,vB j5.2])),.a,.a,.a,.a,.a,.a] (uo [] [(11,vP [11,52] (0)),(12,vB j5.2)] [.e (bx [11,52] (Ac j5.1)),.k 0,.k 1,.k 2,.k 3]) (aC (Dq t11)<|aC (show True∧0<[V.undef,V.undef].length from⟨trivial,(by decide)⟩)<|aC (show True∧1<[V.undef,V.undef].length from⟨trivial,(by decide)⟩)<|aN)<|hS ?_
      obtain⟨o4,k11,b83,m11,b84,n11,d1⟩:=M9 d1
      refine Gg [.a,.a,.a,.a,.a,.a,.a,(.v (vB o4)),.a,.a,.a,.a,.a,.a,.a,.a,(.v (vB b83)),(.v (vB b84))] (uo [11,12] [(42,vB b84)] [.k 1,.k 2,.k 3,.k 4]) (aG ((!j5.2)==false)<|aH ((!j5.2)==false)<|aF (!j5.2)<|aB k11<|aG (o4==false)<|aG (o4==false)<|aG ((o4==false)&&((decide (0≤i0))==true))<|aH ((o4==false)&&((decide (0≤i0))==true))<|aC (fun hg:(o4==false)=true=>aC (gi (o4==false))<|aC (fun q:(decide (0≤i0))=true=>(gA hg (gT q)))<|aB m11<|aN)<|aF o4<|aB n11<|aN)<|iC d1 (fun d1=>?_) (fun d1=>?_)
      ·refine Gg [.a] (u [0,1,3,4,10,13,14,15,42] [(8,vB false)]) (aN)<|hR<|Tr<|qR<|Tr ?_
       obtain rfl:=q7 _ (sI d1).symm
       replace n1:=EL n1
       refine Tr<|qR<|Tr<|nR (vB false) ⟨(y1,false),n1,lT⟩
      refine hK<|Tn<|hO<|Gp 2 [.a,.a] (u [] [(43,.c (.mref [11])),(44,vI x3)]) (aN)<|Run.inl rfl rfl (EB.mapGet (id:=[11]) (kv:=y1) (n:=x3) rfl ?_)
      refine Gp 1 [.a] (u [] [(46,vI (Ab ((Cn y1 x3)+(1:Int))))]) (aN)<|Run.inl rfl rfl (EB.mapSet (id:=[11]) (kv:=y1) (n:=x3) (z:=(Ab ((Cn y1 x3)+(1:Int)))) rfl rfl ?_)
      refine Gw [] (u [] []) (aN)<|qN<|Tn<|Ge [.a,.a] (u [] [(15,vI (Ab (t2+1))),(47,vI (Ab (t2+1)))]) (aN)<|Tn ⟨((Ab (t2+1)),(GE y1 x3 (Ab ((Cn y1 x3)+(1:Int))))),(sI d1).symm,wT⟩
     refine hE<|Te ?_
     obtain rfl:=q7 _ (sI d1).symm
     replace n1:=Fa n1
     refine Te<|qX<|Tn ⟨y1,n1,wT⟩
    rintro q6 y5
    replace y5:HE i0 z1 q6=some n2:=y5
    unfold HE at y5
    refine Gg [.a] (u [] [(8,vB true)]) (aN)<|hR<|nR (vB true) ⟨(q6,true),y5,lT⟩
   ·replace n1:=iF n1 z3
    exact⟨(o6,false),vB false,n1,lT⟩
   rintro⟨p6,q66⟩ m3
   replace m3:Db i0 z1 p6 q66=some n2:=m3
   unfold Db at m3
   obtain⟨b68,j11,m3⟩:=bS m3
   refine Gw [.a,(.v (vB b68))] (u [] [(53,.g (z1==false) (vB (!q66))),(54,vB b68)]) (aG (z1==false)<|aF z1<|aB j11<|aN)<|Tn<|iC m3 (fun m3=>?_) (fun m3=>?_)
   ·refine Rg [.a] (sl 88 [(2,vB false)] []) (aN)<|hR<|qR<|Tr ?_
    obtain rfl:=p7 _ (sI m3).symm
    replace o2:=EL o2
    exact Tr<|qR<|Tr<|bQ _ (kB o2)
   refine hK<|qN<|Tn<|Ge [.a,.a] (u [] [(28,vI (Ab (i0+1))),(55,vI (Ab (i0+1)))]) (aN)<|Tn ⟨((Ab (i0+1)),p6),(sI m3).symm,wT⟩
  refine hE<|Te ?_
  obtain rfl:=p7 _ (sI j1).symm
  replace o2:=Fa o2
  refine Te<|qX<|Tn ⟨z4,o2,wT⟩
 rintro k10 z2
 replace z2:Ez a0 k10=some r:=z2
 unfold Ez at z2
 refine Gj (X:=(List (Int×Int))) (fun v=>(uo [4] [] [.k 0,.e (⟨[11],none,[.mp v],false⟩),.k 2])) (fun v=>Ey a0 v=some r) ?_ ?_
 ·refine Gg (nA 4) (u [] [(57,vL An a0.Stack),(58,vI (a0.Stack.length:Int)),(59,vI 0)]) (aN)<|hB ?_
  obtain⟨o12,q9,z2⟩:=bS z2
  refine Gi (fun(v:Int×(List (Int×Int)))=>(uo [] [(59,vI v.1)] [.k 0,.e (⟨[11],none,[.mp v.2],false⟩),.k 2])) q9 (wT) ?_
  rintro⟨x0,o3⟩ m5 o0 n7
  replace o0:Cd a0 x0 o3=some m5:=o0
  unfold Cd at o0
  refine Gg [.a] (u [] [(60,vB (decide (x0<(a0.Stack.length:Int))))]) (aN)<|hS<|iC o0 (fun o0=>?_) (fun o0=>?_)
  ·refine hK<|Tn<|hS<|hB ?_
   obtain⟨k0,i8,o0⟩:=bS o0
   refine Gg [.a,(.v (vA An k0)),.a,.a] (uo [60] [(8,vP [8] (0))] [.e (bx [8] (An k0)),.k 0,.k 1,.k 2]) (aC (Bm i8)<|aC (GN i8 KQ 0 94 true (vA An k0))<|aC (Eq.refl (vA An k0))<|aN)<|hS<|hO<|Gp 7 (nA 7) (u [] [(63,vP [8] (1)),(64,vI k0.Kind),(65,vB (k0.Kind==1)),(66,vB (k0.Kind==1)),(67,.g ((k0.Kind==1)==true) (.c (.clo 43 [.ptr [1] (0),.ptr [3] (0)]))),(68,.g ((k0.Kind==1)==true) (vP [8] (0))),(69,.g ((k0.Kind==1)==true) (vI k0.Id))]) (aG ((k0.Kind==1)==true)<|aN)<|Run.inlgJ (X:=Unit) (g:=((k0.Kind==1)==true)) (fun _=>(sl 88 [(1,vP [1] (0)),(3,vP [3] (0)),(4,.c (.clo 43 [.ptr [1] (0),.ptr [3] (0)])),(8,vP [8] (0)),(57,vL An a0.Stack),(58,vI (a0.Stack.length:Int)),(59,vI x0),(63,vP [8] (1)),(64,vI k0.Kind),(65,vB (k0.Kind==1)),(66,vB (k0.Kind==1)),(67,.g ((k0.Kind==1)==true) (.c (.clo 43 [.ptr [1] (0),.ptr [3] (0)]))),(68,.g ((k0.Kind==1)==true) (vP [8] (0))),(70,.g ((k0.Kind==1)==true) (vL (eI .i64) ([k0.Id]:List (Int))))] [bx [8] (An k0),bx [3] [.mref [11]],⟨[11],none,[.mp o3],false⟩,bx [1] (Am a0)])) (fun _=>True) 70 rfl rfl rfl (fun o8=>?_) (fun o8=>⟨(),vL (eI .i64) ([k0.Id]:List (Int)),trivial,lT⟩) ?_
   ·skip
    exact EB.ung (x:=vI k0.Id) 69 o8<|EB.frz [70] (s:= .a) (l:=[]) (st1:=(sl 88 [(1,vP [1] (0)),(3,vP [3] (0)),(4,.c (.clo 43 [.ptr [1] (0),.ptr [3] (0)])),(8,vP [8] (0)),(57,vL An a0.Stack),(58,vI (a0.Stack.length:Int)),(59,vI x0),(63,vP [8] (1)),(64,vI k0.Kind),(65,vB (k0.Kind==1)),(66,vB (k0.Kind==1)),(67,.g ((k0.Kind==1)==true) (.c (.clo 43 [.ptr [1] (0),.ptr [3] (0)]))),(68,.g ((k0.Kind==1)==true) (vP [8] (0))),(69,vI k0.Id),(70,vO [70])] [Bl [70] 3 1 (eI .i64) ([k0.Id]:List (Int)),bx [8] (An k0),bx [3] [.mref [11]],⟨[11],none,[.mp o3],false⟩,bx [1] (Am a0)])) aN ⟨(),trivial,lT⟩
   rintro _ _
   refine Gp 0 [] (u [] []) (aN)<|Run.inlgJ (X:=(List (Int×Int))×Bool) (g:=((k0.Kind==1)==true)) (fun v=>(sl 88 [(1,vP [1] (0)),(3,vP [3] (0)),(4,.c (.clo 43 [.ptr [1] (0),.ptr [3] (0)])),(57,vL An a0.Stack),(58,vI (a0.Stack.length:Int)),(59,vI x0),(66,vB (k0.Kind==1)),(71,.g ((k0.Kind==1)==true) (vB v.2))] [bx [3] [.mref [11]],⟨[11],none,[.mp v.1],false⟩,bx [1] (Am a0)])) (fun v=>CC x0 k0 v.1 v.2=some m5) 71 rfl rfl rfl (fun m4=>?_) (fun m4=>?_) ?_
   ·replace o0:=iT o0 m4
    refine EB.ung (x:= .c (.clo 43 [.ptr [1] (0),.ptr [3] (0)])) 67 m4<|EB.ung (x:=vL (eI .i64) ([k0.Id]:List (Int))) 70 m4<|Ei 71 [vI 5,vI (-1:Int),vL (eI .i64) ([k0.Id]:List (Int))] [.ptr [1] (0),.ptr [3] (0)] Tryz.func43 Tryz.ntmps43 [.tmp 8] rfl rfl rfl rfl fun _ _ _ _=>Rg [.a] (sg 48 [(0,vI 5),(1,vI (-1:Int)),(2,vL (eI .i64) ([k0.Id]:List (Int))),(3,vP [1] (0)),(4,vP [3] (0))] [bx [8] (An k0),bx [3] [.mref [11]],⟨[11],none,[.mp o3],false⟩,bx [1] (Am a0)] 88 [(1,vP [1] (0)),(3,vP [3] (0)),(4,.c (.clo 43 [.ptr [1] (0),.ptr [3] (0)])),(8,vP [8] (0)),(57,vL An a0.Stack),(58,vI (a0.Stack.length:Int)),(59,vI x0),(63,vP [8] (1)),(64,vI k0.Kind),(65,vB (k0.Kind==1)),(66,vB (k0.Kind==1)),(67,.c (.clo 43 [.ptr [1] (0),.ptr [3] (0)])),(68,.g ((k0.Kind==1)==true) (vP [8] (0))),(70,vL (eI .i64) ([k0.Id]:List (Int)))] [71]) (aN)<|Gj (X:=(List (Int×Int))) (fun v=>(uo [0,1,2,3,4] [] [.k 0,.k 1,.e (⟨[11],none,[.mp v],false⟩),.k 3])) (fun v=>FE x0 k0 v=some m5) ?_ ?_
    ·refine Gg (nA 3) (u [2] [(13,vL (eI .i64) ([k0.Id]:List (Int))),(14,vI (([k0.Id]:List (Int)).length :Int)),(15,vI 0)]) (aN)<|hB ?_
     obtain⟨p12,t9,o0⟩:=bS o0
     refine Gi (fun(v:Int×(List (Int×Int)))=>(uo [] [(15,vI v.1)] [.k 0,.k 1,.e (⟨[11],none,[.mp v.2],false⟩),.k 3])) t9 (wT) ?_
     rintro⟨q2,q1⟩ z11 z0 o7
     replace z0:Cc a0 k0 q2 q1=some z11:=z0
     unfold Cc at z0
     refine Gg [.a] (u [] [(16,vB (decide (q2<(([k0.Id]:List (Int)).length :Int))))]) (aN)<|hS<|iC z0 (fun z0=>?_) (fun z0=>?_)
     ·refine hK<|Tn<|hS<|hB ?_
      obtain⟨i3,j8,z0⟩:=bS z0
      refine Gg [.a,(.v (vI i3)),.a] (u [16] [(10,vI i3)]) (aC (Bm j8)<|aC (GN j8 (I1 .i64) 0 1 false (vI i3))<|aC (Eq.refl (vI i3))<|aN) ?_
      obtain⟨i5,q11,z0⟩:=bS z0
      refine Gg [.a,.a,(.c (.tup [vA Ac i5.1,vB i5.2])),.a,.a,.a,.a,.a,.a] (uo [] [(11,vP [11,71] (0)),(12,vB i5.2)] [.e (bx [11,71] (Ac i5.1)),.k 0,.k 1,.k 2,.k 3]) (aC (Dq q11)<|aC (show True∧0<[V.undef,V.undef].length from⟨trivial,(by decide)⟩)<|aC (show True∧1<[V.undef,V.undef].length from⟨trivial,(by decide)⟩)<|aN)<|hS ?_
      obtain⟨n4,y10,b47,z10,z7,d11,z0⟩:=M9 z0
      refine Gg [.a,.a,.a,.a,.a,.a,.a,(.v (vB n4)),.a,.a,.a,.a,.a,.a,.a,.a,(.v (vB b47)),(.v (vB z7))] (uo [11,12] [(42,vB z7)] [.k 1,.k 2,.k 3,.k 4]) (aG ((!i5.2)==false)<|aH ((!i5.2)==false)<|aF (!i5.2)<|aB y10<|aG (n4==false)<|aG (n4==false)<|aG ((n4==false)&&((decide ((0:Int)≤(-1:Int)))==true))<|aH ((n4==false)&&((decide ((0:Int)≤(-1:Int)))==true))<|aC (fun hg:(n4==false)=true=>aC (gi (n4==false))<|aC (fun q:(decide ((0:Int)≤(-1:Int)))=true=>(gA hg (gT q)))<|aB z10<|aN)<|aF n4<|aB d11<|aN)<|iC z0 (fun z0=>?_) (fun z0=>?_)
      ·refine Gg [.a] (u [0,1,3,4,10,13,14,15,42] [(8,vB false)]) (aN)<|hR<|Tr<|qR<|Tr ?_
       obtain rfl:=o7 _ (sI z0).symm
       replace o0:=EL o0
       refine Tr<|qR<|Tr<|nR (vB false) ⟨(q1,false),o0,lT⟩
      refine hK<|Tn<|hO<|Gp 2 [.a,.a] (u [] [(43,.c (.mref [11])),(44,vI i3)]) (aN)<|Run.inl rfl rfl (EB.mapGet (id:=[11]) (kv:=q1) (n:=i3) rfl ?_)
      refine Rp 1 [.a] (sg 48 [(0,vI 5),(1,vI (-1:Int)),(3,vP [1] (0)),(4,vP [3] (0)),(10,vI i3),(13,vL (eI .i64) ([k0.Id]:List (Int))),(14,vI (([k0.Id]:List (Int)).length :Int)),(15,vI q2),(42,vB z7),(43,.c (.mref [11])),(44,vI i3),(45,vI (Cn q1 i3)),(46,vI (Ab ((Cn q1 i3)+(1:Int))))] [bx [8] (An k0),bx [3] [.mref [11]],⟨[11],none,[.mp q1],false⟩,bx [1] (Am a0)] 88 [(1,vP [1] (0)),(3,vP [3] (0)),(4,.c (.clo 43 [.ptr [1] (0),.ptr [3] (0)])),(8,vP [8] (0)),(57,vL An a0.Stack),(58,vI (a0.Stack.length:Int)),(59,vI x0),(63,vP [8] (1)),(64,vI k0.Kind),(65,vB (k0.Kind==1)),(66,vB (k0.Kind==1)),(67,.c (.clo 43 [.ptr [1] (0),.ptr [3] (0)])),(68,.g ((k0.Kind==1)==true) (vP [8] (0))),(70,vL (eI .i64) ([k0.Id]:List (Int)))] [71]) (aN)<|Run.inl rfl rfl (EB.mapSet (id:=[11]) (kv:=q1) (n:=i3) (z:=(Ab ((Cn q1 i3)+(1:Int)))) rfl rfl ?_)
      refine Gw [] (u [] []) (aN)<|qN<|Tn<|Ge [.a,.a] (u [] [(15,vI (Ab (q2+1))),(47,vI (Ab (q2+1)))]) (aN)<|Tn ⟨((Ab (q2+1)),(GE q1 i3 (Ab ((Cn q1 i3)+(1:Int))))),(sI z0).symm,wT⟩
     refine hE<|Te ?_
     obtain rfl:=o7 _ (sI z0).symm
     replace o0:=Fa o0
     refine Te<|qX<|Tn ⟨q1,o0,wT⟩
    rintro n6 x5
    replace x5:FE x0 k0 n6=some m5:=x5
    unfold FE at x5
    refine Gg [.a] (u [] [(8,vB true)]) (aN)<|hR<|nR (vB true) ⟨(n6,true),x5,lT⟩
   ·replace o0:=iF o0 m4
    exact⟨(o3,false),vB false,o0,lT⟩
   rintro⟨m6,q30⟩ k3
   replace k3:CC x0 k0 m6 q30=some m5:=k3
   unfold CC at k3
   obtain⟨b32,x10,k3⟩:=bS k3
   refine Gw [.a,(.v (vB b32))] (u [] [(72,.g ((k0.Kind==1)==true) (vB (!q30))),(73,vB b32)]) (aG ((k0.Kind==1)==true)<|aT (k0.Kind==1)<|aB x10<|aN)<|Tn<|iC k3 (fun k3=>?_) (fun k3=>?_)
   ·refine Rg [.a] (sl 88 [(2,vB false)] []) (aN)<|hR<|qR<|Tr ?_
    obtain rfl:=n7 _ (sI k3).symm
    replace z2:=EL z2
    exact Tr<|qR<|Tr<|bQ _ (kB z2)
   refine hK<|qN<|Tn<|Ge [.a,.a] (u [] [(59,vI (Ab (x0+1))),(74,vI (Ab (x0+1)))]) (aN)<|Tn ⟨((Ab (x0+1)),m6),(sI k3).symm,wT⟩
  refine hE<|Te ?_
  obtain rfl:=n7 _ (sI o0).symm
  replace z2:=Fa z2
  refine Te<|qX<|Tn ⟨o3,z2,wT⟩
 rintro n3 d3
 replace d3:Ey a0 n3=some r:=d3
 unfold Ey at d3
 refine Sj (X:=Unit) (fun v=>(sl 88 [] [])) (fun v=>FD=some r) ?_ ?_
 ·refine Gg (nA 4) (uo [1] [(76,vL Ac a0.Objects),(77,vI (a0.Objects.length:Int)),(78,vI 0)] [.k 0,.k 1]) (aN)<|hB ?_
  obtain⟨n12,p9,d3⟩:=bS d3
  refine Gi (fun(v:Int)=>(u [] [(78,vI v)])) p9 (wT) ?_
  rintro y2 y11 o1 m7
  replace o1:Da a0 n3 y2=some y11:=o1
  unfold Da at o1
  refine Gg [.a] (u [] [(79,vB (decide (y2<(a0.Objects.length:Int))))]) (aN)<|hS<|iC o1 (fun o1=>?_) (fun o1=>?_)
  ·refine hK<|Tn<|hS<|hB ?_
   obtain⟨d4,d8,o1⟩:=bS o1
   refine Gg [.a,(.v (vA Ac d4)),.a,.a] (uo [79] [(10,vP [10] (0))] [.e (bx [10] (Ac d4)),.k 0,.k 1]) (aC (Bm d8)<|aC (GN d8 GX 0 19 true (vA Ac d4))<|aC (Eq.refl (vA Ac d4))<|aN)<|hS<|hO<|Gp 3 (nA 3) (u [] [(82,.c (.mref [11])),(83,vP [10] (0)),(84,vI d4.Id)]) (aN)<|Run.inl rfl rfl (EB.mapGet (id:=[11]) (kv:=n3) (n:=d4.Id) rfl ?_)
   refine Rw [.a] (sl 88 [(3,vP [3] (0)),(10,vP [10] (0)),(76,vL Ac a0.Objects),(77,vI (a0.Objects.length:Int)),(78,vI y2),(82,.c (.mref [11])),(83,vP [10] (0)),(84,vI d4.Id),(85,vI (Cn n3 d4.Id)),(86,vB ((Cn n3 d4.Id) != (1:Int)))] [bx [10] (Ac d4),bx [3] [.mref [11]],⟨[11],none,[.mp n3],false⟩]) (aN)<|Tn<|iC o1 (fun o1=>?_) (fun o1=>?_)
   ·refine Rg [.a] (sl 88 [(2,vB false)] []) (aN)<|hR<|qR<|Tr ?_
    obtain rfl:=m7 _ (sI o1).symm
    replace d3:=EL d3
    exact Tr<|qR<|Tr<|bQ _ (kB d3)
   refine hK<|qN<|Tn<|Ge [.a,.a] (u [] [(78,vI (Ab (y2+1))),(87,vI (Ab (y2+1)))]) (aN)<|Tn ⟨(Ab (y2+1)),(sI o1).symm,wT⟩
  refine hE<|Te ?_
  obtain rfl:=m7 _ (sI o1).symm
  replace d3:=Fa d3
  refine Te<|qX<|Tn ⟨(),d3,wT⟩
 rintro _ t5
 replace t5:FD=some r:=t5
 unfold FD at t5
 exact Rg [.a] (sl 88 [(2,vB true)] []) (aN)<|hR<|bQ _ (kB t5)
def Dr (a0:AN) (a1:AN):Option (Bool):=
 (some (if(a0.Kind==a1.Kind)=true then a0.Filter==a1.Filter else false)).bind fun b1=>
 (gd (b1==true) (Bd a0.Mods a1.Mods)).bind fun r2=>
 (some (if b1=true then r2 else false)).bind fun b3=>
 (some (if b3=true then a0.Price==a1.Price else false)).bind fun b4=>
 (some (if b4=true then a0.Slow==a1.Slow else false)).bind fun b5=>
 (some (if b5=true then a0.Trigger==a1.Trigger else false)).bind fun b6=>
 (some (if b6=true then a0.May==a1.May else false)).bind fun b7=>
 (gd (b7==true) (Br a0.Specs a1.Specs)).bind fun r8=>
 (some (if b7=true then r8 else false)).bind fun b9=>
 (gd (b9==true) (Bu a0.Effects a1.Effects)).bind fun r10=>
 (some (if b9=true then r10 else false)).bind fun b11=>
 (some (if b11=true then a0.Replace==a1.Replace else false)).bind fun b12=>
 some b12
def Or (a0:AN) (a1:AN) (r:Bool):Prop:=Ah Tryz.prog I0 45 [vA Bp a0,vA Bp a1] (· =vB r)
theorem Hc {a0:AN} {a1:AN} {r:Bool} (h:Dr a0 a1=some r):Or a0 a1 r:=by
 refine Ah.bo Ag Tryz.func45 rfl Tryz.ntmps45 [.tmp 4] fun _ _ _ _=>?_
 unfold Dr at h
 refine Rg (nA 3) (sl 73 [(2,vP [2] (0)),(3,vP [3] (0))] [bx [3] (Bp a1),bx [2] (Bp a0)]) (aN) ?_
 obtain⟨b1,o0,r2,d1,b3,p0,b4,q0,h⟩:=Ij h
 obtain⟨b5,t0,b6,x0,b7,y0,r8,i1,h⟩:=Ij h
 obtain⟨b9,z0,j1,n0,i0,k0,j0,m0,h⟩:=Ij h
 exact Rg [.a,.a,.a,.a,.a,.a,.a,.a,.a,.a,(.v (vB (a0.Filter==a1.Filter))),(.v (vB b1)),.a,.a,.a,.a,.a,(.c (vB r2)),(.v (vB b3)),.a,.a,.a,.a,.a,(.v (vB (a0.Price==a1.Price))),(.v (vB b4)),.a,.a,.a,.a,.a,.a,(.v (vB b5)),.a,.a,.a,.a,.a,(.v (vB (a0.Trigger==a1.Trigger))),(.v (vB b6)),.a,.a,.a,.a,.a,.a,(.v (vB b7)),.a,.a,.a,.a,.a,(.c (vB r8)),(.v (vB b9)),.a,.a,.a,.a,.a,(.c (vB j1)),(.v (vB i0)),.a,.a,.a,.a,.a,(.v (vB (a0.Replace==a1.Replace))),(.v (vB j0)),.a] (sl 73 [(4,vB j0)] []) (aG ((a0.Kind==a1.Kind)==true)<|aG ((a0.Kind==a1.Kind)==true)<|aC (fun hg:((a0.Kind==a1.Kind)==true)=true=>aC (gi ((a0.Kind==a1.Kind)==true))<|aC (gi ((a0.Kind==a1.Kind)==true))<|aC (congrArg (fun z=>V.c (.bool (z))) (T8 a0.Filter a1.Filter))<|aN)<|aT (a0.Kind==a1.Kind)<|aB o0<|aG (b1==true)<|aG (b1==true)<|aC (c2 d1 B5)<|aT b1<|aB p0<|aG (b3==true)<|aG (b3==true)<|aC (fun hg:(b3==true)=true=>aC (gi (b3==true))<|aC (gi (b3==true))<|aC (congrArg (fun z=>V.c (.bool (z))) (ju a0.Price a1.Price))<|aN)<|aT b3<|aB q0<|aG (b4==true)<|aG (b4==true)<|aC (fun hg:(b4==true)=true=>aC (gi (b4==true))<|aC (gi (b4==true))<|aC Xm<|aN)<|aT b4<|aB t0<|aG (b5==true)<|aG (b5==true)<|aC (fun hg:(b5==true)=true=>aC (gi (b5==true))<|aC (gi (b5==true))<|aC (congrArg (fun z=>V.c (.bool (z))) (jv a0.Trigger a1.Trigger))<|aN)<|aT b5<|aB x0<|aG (b6==true)<|aG (b6==true)<|aC (fun hg:(b6==true)=true=>aC (gi (b6==true))<|aC (gi (b6==true))<|aC Xm<|aN)<|aT b6<|aB y0<|aG (b7==true)<|aG (b7==true)<|aC (c2 i1 FM)<|aT b7<|aB z0<|aG (b9==true)<|aG (b9==true)<|aC (c2 n0 Gd)<|aT b9<|aB k0<|aG (i0==true)<|aG (i0==true)<|aC (fun hg:(i0==true)=true=>aC (gi (i0==true))<|aC (gi (i0==true))<|aC (congrArg (fun z=>V.c (.bool (z))) (fd a0.Replace a1.Replace))<|aN)<|aT i0<|aB m0<|aN)<|hR<|bQ _ (kB h)
def NO (a0:Bx):Option ((List UInt8)):=
 (IX a0).bind fun r1=>
 (if(!r1)=true then
  some ([]:List UInt8)
 else
  (if(a0.Kind==1)=true then
   some Nz
  else
   (if(a0.Kind==2)=true then
    (Dp a0.N).bind fun r5=>
    (cat Mq r5).bind fun s6=>
    some s6
   else
    (if(a0.Kind==3)=true then
     (Dp a0.N).bind fun r8=>
     (cat Lh r8).bind fun s9=>
     some s9
    else
     (if(a0.Kind==4)=true then
      (cat PN a0.Sub).bind fun s11=>
      some s11
     else
      (if(a0.Kind==5)=true then
       (cat N6 a0.Sub).bind fun s13=>
       some s13
      else
       (if(a0.Kind==6)=true then
        (Iv a0.N).bind fun r15=>
        (cat Li r15).bind fun s16=>
        some s16
       else
        (if(a0.Kind==7)=true then
         (Iv a0.N).bind fun r18=>
         (cat J8 r18).bind fun s19=>
         some s19
        else
         (if(a0.Kind==8)=true then
          (Hw a0.N).bind fun r21=>
          (cat Mr r21).bind fun s22=>
          some s22
         else
          (if(a0.Kind==9)=true then
           (Hw a0.N).bind fun r24=>
           (cat GK r24).bind fun s25=>
           some s25
          else
           (if(a0.Kind==10)=true then
            some QU
           else
            (if(a0.Kind==11)=true then
             (II a0.Filter).bind fun r28=>
             (cat Js r28).bind fun s29=>
             (cat s29 S4).bind fun s30=>
             some s30
            else
             (if(a0.Kind==12)=true then
              (EE a0.N).bind fun r32=>
              (cat S5 r32).bind fun s33=>
              (cat s33 Lk).bind fun s34=>
              (EE a0.M).bind fun r35=>
              (cat s34 r35).bind fun s36=>
              some s36
             else
              (if(a0.Kind==13)=true then
               (EE a0.N).bind fun r38=>
               (cat PO r38).bind fun s39=>
               (cat s39 Lk).bind fun s40=>
               (EE a0.M).bind fun r41=>
               (cat s40 r41).bind fun s42=>
               some s42
              else
               some LC))))))))))))))
def aP (a0:Bx) (r:(List UInt8)):Prop:=Ah Tryz.prog I0 97 [vA AM a0] (· =vS r)
theorem Zg {a0:Bx} {r:(List UInt8)} (h:NO a0=some r):aP a0 r:=by
 refine Ah.bo Ag Tryz.func97 rfl Tryz.ntmps97 [.tmp 2] fun _ _ _ _=>?_
 unfold NO at h
 refine Rg [.a,.a] (sl 87 [(1,vP [1] (0))] [bx [1] (AM a0)]) (aN)<|hS ?_
 obtain⟨r1,t2,h⟩:=bS h
 refine Gg [.a,(.c (vB r1)),.a] (u [] [(5,vB (!r1))]) (aC (WB t2)<|aN)<|iC h (fun h=>?_) (fun h=>?_)
 ·exact Rg [.a] (sl 87 [(2,vS ([]:List UInt8))] []) (aN)<|hR<|Tr<|bQ _ (congrArg vS (sI h))
 refine hK<|Tn<|hS<|Gg [.a,.a] (u [5] [(7,vI a0.Kind)]) (aN)<|hB<|Gg [.a,.a] (u [] [(8,vB (a0.Kind==1))]) (aN)<|iC h (fun h=>?_) (fun h=>?_)
 ·exact Rg [.a] (sl 87 [(2,vS Nz)] []) (aN)<|hR<|qR<|Tr<|bQ _ (congrArg vS (sI h))
 refine Gg [.a,.a] (u [8] [(10,vB (a0.Kind==2))]) (aN)<|iC h (fun h=>?_) (fun h=>?_)
 ·obtain⟨r5,x2,s6,j1,h⟩:=JX h
  exact Rg [.a,.a,(.c (vS r5)),(.v (vS s6)),.a] (sl 87 [(2,vS s6)] []) (aC (GL x2)<|aC (DB j1)<|aC (congrArg (fun z=>V.c (.str z)) (DC j1).symm)<|aN)<|hR<|qR<|Tr<|bQ _ (congrArg vS (sI h))
 refine Gg [.a,.a] (u [10] [(16,vB (a0.Kind==3))]) (aN)<|iC h (fun h=>?_) (fun h=>?_)
 ·obtain⟨r8,y2,s9,k1,h⟩:=JX h
  exact Rg [.a,.a,(.c (vS r8)),(.v (vS s9)),.a] (sl 87 [(2,vS s9)] []) (aC (GL y2)<|aC (DB k1)<|aC (congrArg (fun z=>V.c (.str z)) (DC k1).symm)<|aN)<|hR<|qR<|Tr<|bQ _ (congrArg vS (sI h))
 refine Gg [.a,.a] (u [16] [(22,vB (a0.Kind==4))]) (aN)<|iC h (fun h=>?_) (fun h=>?_)
 ·obtain⟨m1,i0,h⟩:=bS h
  exact Rg [.a,.a,(.v (vS m1)),.a] (sl 87 [(2,vS m1)] []) (aC (DB i0)<|aC (congrArg (fun z=>V.c (.str z)) (DC i0).symm)<|aN)<|hR<|qR<|Tr<|bQ _ (congrArg vS (sI h))
 refine Gg [.a,.a] (u [22] [(27,vB (a0.Kind==5))]) (aN)<|iC h (fun h=>?_) (fun h=>?_)
 ·obtain⟨n1,j0,h⟩:=bS h
  exact Rg [.a,.a,(.v (vS n1)),.a] (sl 87 [(2,vS n1)] []) (aC (DB j0)<|aC (congrArg (fun z=>V.c (.str z)) (DC j0).symm)<|aN)<|hR<|qR<|Tr<|bQ _ (congrArg vS (sI h))
 refine Rg [.a,.a] (sl 87 [(1,vP [1] (0)),(7,vI a0.Kind),(32,vB (a0.Kind==6))] [bx [1] (AM a0)]) (aN)<|iC h (fun h=>?_) (fun h=>?_)
 ·obtain⟨z2,d2,o1,k0,h⟩:=JX h
  exact Rg [.a,.a,(.c (vS z2)),(.v (vS o1)),.a] (sl 87 [(2,vS o1)] []) (aC (OG d2)<|aC (DB k0)<|aC (congrArg (fun z=>V.c (.str z)) (DC k0).symm)<|aN)<|hR<|qR<|Tr<|bQ _ (congrArg vS (sI h))
 refine Gg [.a,.a] (u [32] [(38,vB (a0.Kind==7))]) (aN)<|iC h (fun h=>?_) (fun h=>?_)
 ·obtain⟨d3,i2,p1,m0,h⟩:=JX h
  exact Rg [.a,.a,(.c (vS d3)),(.v (vS p1)),.a] (sl 87 [(2,vS p1)] []) (aC (OG i2)<|aC (DB m0)<|aC (congrArg (fun z=>V.c (.str z)) (DC m0).symm)<|aN)<|hR<|qR<|Tr<|bQ _ (congrArg vS (sI h))
 refine Gg [.a,.a] (u [38] [(44,vB (a0.Kind==8))]) (aN)<|iC h (fun h=>?_) (fun h=>?_)
 ·obtain⟨i3,j2,q1,n0,h⟩:=JX h
  exact Rg [.a,.a,(.c (vS i3)),(.v (vS q1)),.a] (sl 87 [(2,vS q1)] []) (aC (M6 j2)<|aC (DB n0)<|aC (congrArg (fun z=>V.c (.str z)) (DC n0).symm)<|aN)<|hR<|qR<|Tr<|bQ _ (congrArg vS (sI h))
 refine Gg [.a,.a] (u [44] [(50,vB (a0.Kind==9))]) (aN)<|iC h (fun h=>?_) (fun h=>?_)
 ·obtain⟨j3,k2,t1,o0,h⟩:=JX h
  exact Rg [.a,.a,(.c (vS j3)),(.v (vS t1)),.a] (sl 87 [(2,vS t1)] []) (aC (M6 k2)<|aC (DB o0)<|aC (congrArg (fun z=>V.c (.str z)) (DC o0).symm)<|aN)<|hR<|qR<|Tr<|bQ _ (congrArg vS (sI h))
 refine Gg [.a,.a] (u [50] [(56,vB (a0.Kind==10))]) (aN)<|iC h (fun h=>?_) (fun h=>?_)
 ·exact Rg [.a] (sl 87 [(2,vS QU)] []) (aN)<|hR<|qR<|Tr<|bQ _ (congrArg vS (sI h))
 refine Gg [.a,.a] (u [56] [(58,vB (a0.Kind==11))]) (aN)<|iC h (fun h=>?_) (fun h=>?_)
 ·obtain⟨k3,m2,q3,p0,x1,q0,h⟩:=M9 h
  exact Rg [.a,.a,(.c (vS k3)),(.v (vS q3)),(.v (vS x1)),.a] (sl 87 [(2,vS x1)] []) (aC (NN m2)<|aC (DB p0)<|aC (congrArg (fun z=>V.c (.str z)) (DC p0).symm)<|aC (DB q0)<|aC (congrArg (fun z=>V.c (.str z)) (DC q0).symm)<|aN)<|hR<|qR<|Tr<|bQ _ (congrArg vS (sI h))
 refine Gg [.a,.a] (u [58] [(65,vB (a0.Kind==12))]) (aN)<|iC h (fun h=>?_) (fun h=>?_)
 ·obtain⟨m3,n2,t3,t0,x3,x0,n3,o2,h⟩:=Ij h
  obtain⟨y1,y0,h⟩:=bS h
  exact Rq DV [.a,.a,(.c (vS m3)),(.v (vS t3)),(.v (vS x3)),.a,.a,(.c (vS n3)),(.v (vS y1)),.a] (sl 87 [(2,vS y1)] []) (aC (G5 n2)<|aC (DB t0)<|aC (congrArg (fun z=>V.c (.str z)) (DC t0).symm)<|aC (DB x0)<|aC (congrArg (fun z=>V.c (.str z)) (DC x0).symm)<|aC (G5 o2)<|aC (DB y0)<|aC (congrArg (fun z=>V.c (.str z)) (DC y0).symm)<|aN)<|hR<|qR<|Tr<|bQ _ (congrArg vS (sI h))
 refine Gg [.a,.a] (u [7,65] [(76,vB (a0.Kind==13))]) (aN)<|iC h (fun h=>?_) (fun h=>?_)
 ·obtain⟨o3,p2,y3,z0,z3,d1,p3,q2,h⟩:=Ij h
  obtain⟨z1,i1,h⟩:=bS h
  exact Rq DV [.a,.a,(.c (vS o3)),(.v (vS y3)),(.v (vS z3)),.a,.a,(.c (vS p3)),(.v (vS z1)),.a] (sl 87 [(2,vS z1)] []) (aC (G5 p2)<|aC (DB z0)<|aC (congrArg (fun z=>V.c (.str z)) (DC z0).symm)<|aC (DB d1)<|aC (congrArg (fun z=>V.c (.str z)) (DC d1).symm)<|aC (G5 q2)<|aC (DB i1)<|aC (congrArg (fun z=>V.c (.str z)) (DC i1).symm)<|aN)<|hR<|qR<|Tr<|bQ _ (congrArg vS (sI h))
 exact hK<|qN<|Tn<|Rg [.a] (sl 87 [(2,vS LC)] []) (aN)<|hR<|bQ _ (congrArg vS (sI h))
def FG (a0:C0):Option ((List UInt8)):=
 (if(!a0.Object)=true then
  (some (if(!a0.Player)=true then true else !(a0.Filter==(⟨0,0,0,0,0,0,0,[],0,0,(⟨0,0⟩:Ae),(⟨0,0⟩:Ae),(⟨0,0⟩:Ae)⟩:Af)))).bind fun b2=>
  (if b2=true then
   some ([]:List UInt8)
  else
   some PP)
 else
  (CR a0.Filter).bind fun r4=>
  (some (if(a0.Filter.Zone != 0)=true then a0.Filter.Zone != 3 else false)).bind fun b5=>
  (some (if b5=true then a0.Filter.Zone != 5 else false)).bind fun b6=>
  (some (if(!r4)=true then true else b6)).bind fun b7=>
  (if b7=true then
   some ([]:List UInt8)
  else
   (II a0.Filter).bind fun r9=>
   (cat bU r9).bind fun s10=>
   (cat s10 Wr).bind fun s11=>
   (if a0.Player=true then
    (cat M5 s11).bind fun s13=>
    some s13
   else
    (cat bV s11).bind fun s14=>
    some s14)))
def O9 (a0:C0) (r:(List UInt8)):Prop:=Ah Tryz.prog I0 92 [vA Bj a0] (· =vS r)
theorem Ot {a0:C0} {r:(List UInt8)} (h:FG a0=some r):O9 a0 r:=by
 refine Ah.bo Ag Tryz.func92 rfl Tryz.ntmps92 [.tmp 2] fun _ _ _ _=>?_
 unfold FG at h
 refine Rg [.a,.a] (sl 47 [(1,vP [1] (0))] [bx [1] (Bj a0)]) (aN)<|hS<|Gg (nA 3) (u [] [(7,vB (!a0.Object))]) (aN)<|iC h (fun h=>?_) (fun h=>?_)
 ·refine hS ?_
  obtain⟨b2,q0,h⟩:=bS h
  refine Rg [.a,.a,.a,.a,.a,.a,.a,(.v (vB (!(a0.Filter==(⟨0,0,0,0,0,0,0,[],0,0,(⟨0,0⟩:Ae),(⟨0,0⟩:Ae),(⟨0,0⟩:Ae)⟩:Af))))),(.v (vB b2))] (sl 47 [(16,vB b2)] []) (aG ((!a0.Player)==false)<|aC (fun hg:((!a0.Player)==false)=true=>aC (And.intro trivial YS)<|aN)<|aC (fun hg:((!a0.Player)==false)=true=>aC (gi ((!a0.Player)==false))<|aC (gi ((!a0.Player)==false))<|aC (congrArg (fun z=>V.c (.bool (!z))) (T8 a0.Filter (⟨0,0,0,0,0,0,0,[],0,0,(⟨0,0⟩:Ae),(⟨0,0⟩:Ae),(⟨0,0⟩:Ae)⟩:Af)))<|aN)<|aF (!a0.Player)<|aB q0<|aN)<|iC h (fun h=>?_) (fun h=>?_)
  ·exact Rg [.a] (sl 47 [(2,vS ([]:List UInt8))] []) (aN)<|hR<|Tr<|Tr<|bQ _ (congrArg vS (sI h))
  exact hK<|Tn<|Rg [.a] (sl 47 [(2,vS PP)] []) (aN)<|hR<|Tr<|bQ _ (congrArg vS (sI h))
 refine hK<|Tn<|Gg (nA 4) (u [7] [(3,vI a0.Filter.Zone)]) (aN)<|hS ?_
 obtain⟨r4,z0,b5,t0,b6,x0,b7,y0,h⟩:=Ij h
 refine Gg [.a,.a,(.c (vB r4)),.a,.a,.a,.a,.a,.a,.a,(.v (vB b5)),.a,.a,.a,(.v (vB b6)),(.v (vB b7))] (u [3] [(35,vB b7)]) (aC (Em z0)<|aG ((!r4)==false)<|aG ((!r4)==false)<|aG (((!r4)==false)&&((a0.Filter.Zone != 0)==true))<|aC (fun hg:((!r4)==false)=true=>aC (gi ((!r4)==false))<|aC (fun q:(a0.Filter.Zone != 0)=true=>(gA hg (gT q)))<|aB t0<|aN)<|aG ((!r4)==false)<|aG (((!r4)==false)&&(b5==true))<|aC (fun hg:((!r4)==false)=true=>aC (gi ((!r4)==false))<|aC (fun q:b5=true=>(gA hg (gT q)))<|aB x0<|aN)<|aF (!r4)<|aB y0<|aN)<|iC h (fun h=>?_) (fun h=>?_)
 ·exact Rg [.a] (sl 47 [(2,vS ([]:List UInt8))] []) (aN)<|hR<|Tr<|bQ _ (congrArg vS (sI h))
 refine hK<|Tn ?_
 obtain⟨r9,d1,i1,i0,n0,j0,h⟩:=M9 h
 refine Gg [.a,.a,(.c (vS r9)),(.v (vS i1)),(.v (vS n0)),.a] (u [35] [(4,vS n0)]) (aC (NN d1)<|aC (DB i0)<|aC (congrArg (fun z=>V.c (.str z)) (DC i0).symm)<|aC (DB j0)<|aC (congrArg (fun z=>V.c (.str z)) (DC j0).symm)<|aN)<|hS<|Gg [.a,.a] (uo [1] [(42,vB a0.Player)] []) (aN)<|iC h (fun h=>?_) (fun h=>?_)
 ·obtain⟨o0,k0,h⟩:=bS h
  exact Rg [.a,(.v (vS o0)),.a] (sl 47 [(2,vS o0)] []) (aC (DB k0)<|aC (congrArg (fun z=>V.c (.str z)) (DC k0).symm)<|aN)<|hR<|Tr<|bQ _ (congrArg vS (sI h))
 refine hK<|Tn ?_
 obtain⟨p0,m0,h⟩:=bS h
 exact Rg [.a,(.v (vS p0)),.a] (sl 47 [(2,vS p0)] []) (aC (DB m0)<|aC (congrArg (fun z=>V.c (.str z)) (DC m0).symm)<|aN)<|hR<|bQ _ (congrArg vS (sI h))
def Pa (a0:Bx) (vt51_17:Bool):Option (Bool):=
 (if vt51_17=true then
  (some (if(decide (1≤a0.N))=true then decide (a0.N≤131071)else false)).bind fun b20=>
  some b20
 else
  (if(a0.Kind==11)=true then
   (K3 a0.Filter).bind fun r22=>
   some r22
  else
   (if(a0.Kind==12)=true then
    (some (if(decide (0≤a0.N))=true then decide (a0.N≤99)else false)).bind fun b24=>
    (some (if b24=true then decide (0≤a0.M)else false)).bind fun gj=>
    (some (if gj=true then decide (a0.M≤99)else false)).bind fun b26=>
    some b26
   else
    (if(a0.Kind==13)=true then
     (some (if(decide ((-99:Int)≤a0.N))=true then decide (a0.N≤99)else false)).bind fun b28=>
     (some (if b28=true then decide ((-99:Int)≤a0.M)else false)).bind fun b29=>
     (some (if b29=true then decide (a0.M≤99)else false)).bind fun b30=>
     some b30
    else
     some true))))
def Pb (a0:Bx) (vt25_9:Bool):Option (Bool):=
 (if vt25_9=true then
  (Og a0.Sub).bind fun r12=>
  some r12
 else
  (if(a0.Kind==6)=true then
   (some (if(decide (0≤a0.N))=true then decide (a0.N≤31)else false)).bind fun b14=>
   some b14
  else
   (if(a0.Kind==7)=true then
    (some (if(decide (1≤a0.N))=true then decide (a0.N≤31)else false)).bind fun b16=>
    some b16
   else
    (if(a0.Kind==8)=true then
     Pa a0 (a0.Kind==8)
    else
     Pa a0 (a0.Kind==9)))))
def Rc (a0:Bx) (vt19_5:Bool):Option (Bool):=
 (if vt19_5=true then
  (QZ a0.N).bind fun r8=>
  some r8
 else
  (if(a0.Kind==4)=true then
   Pb a0 (a0.Kind==4)
  else
   Pb a0 (a0.Kind==5)))
def Pc (a0:Bx):Option (Bool):=
 (some (if(decide (a0.Kind<1))=true then true else decide (14<a0.Kind))).bind fun b1=>
 (gd (b1==false) (Y2 a0)).bind fun r2=>
 (some (if b1=true then true else !(r2==(⟨0,0,0,[],(⟨0,0,0,0,0,0,0,[],0,0,(⟨0,0⟩:Ae),(⟨0,0⟩:Ae),(⟨0,0⟩:Ae)⟩:Af)⟩:Bx)))).bind fun b3=>
 (if b3=true then
  some false
 else
  (if(a0.Kind==2)=true then
   Rc a0 (a0.Kind==2)
  else
   Rc a0 (a0.Kind==3)))
def Pd (a0:By) (zone_t3_9:Int):Option (Bool):=
 (K3 a0.Filter).bind fun r11=>
 (some (if r11=true then a0.Filter.Zone==zone_t3_9 else false)).bind fun b12=>
 some b12
def NP (a0:By):Option (Bool):=
 (K0 a0.When).bind fun r1=>
 (some (if(r1==([]:List UInt8))=true then true else decide (a0.Who<0))).bind fun b2=>
 (some (if b2=true then true else decide (2<a0.Who))).bind fun b3=>
 (gd (b3==false) (ME a0.When)).bind fun r4=>
 (some (if(!r4)=true then a0.Who != 0 else false)).bind fun b5=>
 (if(if b3=true then true else b5)=true then
  some false
 else
  (OH a0.When).bind fun r7=>
  (if(!r7)=true then
   some (a0.Filter==(⟨0,0,0,0,0,0,0,[],0,0,(⟨0,0⟩:Ae),(⟨0,0⟩:Ae),(⟨0,0⟩:Ae)⟩:Af))
  else
   (if(a0.When==9)=true then
    Pd a0 (5:Int)
   else
    Pd a0 (0:Int))))
def L6 (a0:Af):Option (Bool):=
 (K3 a0).bind fun r1=>
 (some (if r1=true then a0.Zone==0 else false)).bind fun b2=>
 some b2
def LM (a1:Af) (zone_t5_1:Int):Option (Bool):=
 (K3 a1).bind fun r3=>
 (some (if r3=true then a1.Zone==zone_t5_1 else false)).bind fun b4=>
 some b4
def Pe (a0:Int) (a1:Af):Option (Bool):=
 (if(a0==21)=true then
  LM a1 (2:Int)
 else
  LM a1 (0:Int))
end Go.PL
