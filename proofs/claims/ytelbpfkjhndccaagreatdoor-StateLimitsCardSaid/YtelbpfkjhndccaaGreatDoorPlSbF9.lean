/- Functions of the program, as partial functions in Lean, with proofs. -/
import Derived.Test.YtelbpfkjhndccaaGreatDoorPlSbB
import Derived.Test.YtelbpfkjhndccaaGreatDoorPlSbF0
import Derived.Test.YtelbpfkjhndccaaGreatDoorPlSbF4
import Derived.Test.YtelbpfkjhndccaaGreatDoorPlSbF6
namespace Go.PL
open Go Go.RowKit Go.Proofs
set_option maxRecDepth 100000
set_option linter.all false
set_option maxHeartbeats 4000000
attribute [local irreducible] Ai B4 BL
def EP (l1000_9_34:List (List UInt8)):Option ((List UInt8)):=
 (if((l1000_9_34.length:Int)==0)=true then
  some N8
 else
  (PK l1000_9_34 Xk).bind fun r37=>
  some r37)
def EQ (a0:Af) (l1000_9_31:List (List UInt8)):Option ((List UInt8)):=
 (DH Wq a0.Value).bind fun r33=>
 (if(r33 != ([]:List UInt8))=true then
  (app 16 l1000_9_31 ([r33]:List (List UInt8))).bind fun l39=>
  EP l39
 else
  EP l1000_9_31)
def ER (a0:Af) (l1000_9_28:List (List UInt8)):Option ((List UInt8)):=
 (DH Wp a0.Tough).bind fun r30=>
 (if(r30 != ([]:List UInt8))=true then
  (app 16 l1000_9_28 ([r30]:List (List UInt8))).bind fun l41=>
  EQ a0 l41
 else
  EQ a0 l1000_9_28)
def ES (a0:Af) (l1000_9_25:List (List UInt8)):Option ((List UInt8)):=
 (DH Wo a0.Power).bind fun r27=>
 (if(r27 != ([]:List UInt8))=true then
  (app 16 l1000_9_25 ([r27]:List (List UInt8))).bind fun l43=>
  ER a0 l43
 else
  ER a0 l1000_9_25)
def Gh (a0:Af) (l1000_9_22:List (List UInt8)):Option ((List UInt8)):=
 (idx (⟨([]:List UInt8),FY,Ej⟩:A3 (List UInt8)).l a0.Tap).bind fun e24=>
 (if(e24 != ([]:List UInt8))=true then
  (app 16 l1000_9_22 ([e24]:List (List UInt8))).bind fun l45=>
  ES a0 l45
 else
  ES a0 l1000_9_22)
def Gk (vt13_49:Int) (l1000_9_58:List (List UInt8)):Option ((Int×(List (List UInt8)))⊕((List (List UInt8)))):=
 some (.inl ((Ab (vt13_49+1)),l1000_9_58))
def Be (vt13_49:Int) (l1000_9_50:List (List UInt8)) (vt21_55:List UInt8):Option ((Int×(List (List UInt8)))⊕((List (List UInt8)))):=
 (cat Cq vt21_55).bind fun s57=>
 (if(s57 != ([]:List UInt8))=true then
  (app 16 l1000_9_50 ([s57]:List (List UInt8))).bind fun l61=>
  Gk vt13_49 l61
 else
  Gk vt13_49 l1000_9_50)
def D6 (vt13_49:Int) (l1000_9_50:List (List UInt8)) (w_t3_65:List UInt8):Option ((Int×(List (List UInt8)))⊕((List (List UInt8)))):=
 (Cw ([w_t3_65,LZ]:List (List UInt8))).bind fun r67=>
 (cat r67 NC).bind fun s68=>
 Be vt13_49 l1000_9_50 s68
def D7 (vt13_49:Int) (l1000_9_50:List (List UInt8)) (w_t3_69:List UInt8):Option ((Int×(List (List UInt8)))⊕((List (List UInt8)))):=
 (Cw ([w_t3_69,Jc]:List (List UInt8))).bind fun r71=>
 (cat r71 NA).bind fun s72=>
 Be vt13_49 l1000_9_50 s72
def ET (r46:(List (Int))) (vt13_49:Int) (l1000_9_50:List (List UInt8)):Option ((Int×(List (List UInt8)))⊕((List (List UInt8)))):=
 (if(decide (vt13_49<(r46.length:Int)))=true then
  (idx r46 vt13_49).bind fun e54=>
  (some (if(decide (e54<0))=true then true else decide (17≤e54))).bind fun b62=>
  (if b62=true then
   Be vt13_49 l1000_9_50 ([]:List UInt8)
  else
   (need (0≤e54)).bind fun u64=>
   (if((Ab ((1:Int)*2 ^ (min (e54).toNat (IntKind.i64).bits)))==(1:Int))=true then
    Be vt13_49 l1000_9_50 Il
   else
    (if((Ab ((1:Int)*2 ^ (min (e54).toNat (IntKind.i64).bits)))==(2:Int))=true then
     Be vt13_49 l1000_9_50 Ja
    else
     (if((Ab ((1:Int)*2 ^ (min (e54).toNat (IntKind.i64).bits)))==(4:Int))=true then
      Be vt13_49 l1000_9_50 Jb
     else
      (if((Ab ((1:Int)*2 ^ (min (e54).toNat (IntKind.i64).bits)))==(8:Int))=true then
       Be vt13_49 l1000_9_50 FT
      else
       (if((Ab ((1:Int)*2 ^ (min (e54).toNat (IntKind.i64).bits)))==(16:Int))=true then
        Be vt13_49 l1000_9_50 GZ
       else
        (if((Ab ((1:Int)*2 ^ (min (e54).toNat (IntKind.i64).bits)))==(32:Int))=true then
         D7 vt13_49 l1000_9_50 IC
        else
         (if((Ab ((1:Int)*2 ^ (min (e54).toNat (IntKind.i64).bits)))==(64:Int))=true then
          D7 vt13_49 l1000_9_50 ([]:List UInt8)
         else
          (if((Ab ((1:Int)*2 ^ (min (e54).toNat (IntKind.i64).bits)))==(128:Int))=true then
           Be vt13_49 l1000_9_50 Im
          else
           (if((Ab ((1:Int)*2 ^ (min (e54).toNat (IntKind.i64).bits)))==(256:Int))=true then
            Be vt13_49 l1000_9_50 FV
           else
            (if((Ab ((1:Int)*2 ^ (min (e54).toNat (IntKind.i64).bits)))==(512:Int))=true then
             Be vt13_49 l1000_9_50 In
            else
             (if((Ab ((1:Int)*2 ^ (min (e54).toNat (IntKind.i64).bits)))==(1024:Int))=true then
              Be vt13_49 l1000_9_50 FW
             else
              (if((Ab ((1:Int)*2 ^ (min (e54).toNat (IntKind.i64).bits)))==(2048:Int))=true then
               Be vt13_49 l1000_9_50 Io
              else
               (if((Ab ((1:Int)*2 ^ (min (e54).toNat (IntKind.i64).bits)))==(4096:Int))=true then
                Be vt13_49 l1000_9_50 Ip
               else
                (if((Ab ((1:Int)*2 ^ (min (e54).toNat (IntKind.i64).bits)))==(8192:Int))=true then
                 Be vt13_49 l1000_9_50 G0
                else
                 (if((Ab ((1:Int)*2 ^ (min (e54).toNat (IntKind.i64).bits)))==(16384:Int))=true then
                  D6 vt13_49 l1000_9_50 NB
                 else
                  (if((Ab ((1:Int)*2 ^ (min (e54).toNat (IntKind.i64).bits)))==(65536:Int))=true then
                   D6 vt13_49 l1000_9_50 ([]:List UInt8)
                  else
                   Be vt13_49 l1000_9_50 FX)))))))))))))))))
 else
  some (.inr l1000_9_50))
def D8 (a0:Af) (l1000_9_20:List (List UInt8)):Option ((List UInt8)):=
 (G3 a0.Keys).bind fun r46=>
 (iter (fun(v:Int×(List (List UInt8)))=>ET r46 v.1 v.2) FU ((0:Int),l1000_9_20)).bind (fun o0=>Gh a0 o0)
def EU (a0:Af) (l1000_9_91:List (List UInt8)):Option ((List UInt8)):=
 D8 a0 l1000_9_91
def Gl (a0:Af) (l1000_9_18:List (List UInt8)):Option ((List UInt8)):=
 (if(a0.Sub != ([]:List UInt8))=true then
  (cat Jr a0.Sub).bind fun s90=>
  (if(s90 != ([]:List UInt8))=true then
   (app 16 l1000_9_18 ([s90]:List (List UInt8))).bind fun l94=>
   EU a0 l94
  else
   EU a0 l1000_9_18)
 else
  D8 a0 l1000_9_18)
def Fx (vt13_98:Int) (l1000_9_107:List (List UInt8)):Option ((Int×(List (List UInt8)))⊕((List (List UInt8)))):=
 some (.inl ((Ab (vt13_98+1)),l1000_9_107))
def DK (vt13_98:Int) (l1000_9_99:List (List UInt8)) (vt21_104:List UInt8):Option ((Int×(List (List UInt8)))⊕((List (List UInt8)))):=
 (cat CU vt21_104).bind fun s106=>
 (if(s106 != ([]:List UInt8))=true then
  (app 16 l1000_9_99 ([s106]:List (List UInt8))).bind fun l110=>
  Fx vt13_98 l110
 else
  Fx vt13_98 l1000_9_99)
def Eu (r95:(List (Int))) (vt13_98:Int) (l1000_9_99:List (List UInt8)):Option ((Int×(List (List UInt8)))⊕((List (List UInt8)))):=
 (if(decide (vt13_98<(r95.length:Int)))=true then
  (idx r95 vt13_98).bind fun e103=>
  (some (if(decide (e103<0))=true then true else decide (5≤e103))).bind fun b111=>
  (if b111=true then
   DK vt13_98 l1000_9_99 ([]:List UInt8)
  else
   (need (0≤e103∧e103<((5:Nat):Int))).bind fun u113=>
   DK vt13_98 l1000_9_99 (Ee.getD ((e103).toNat) []))
 else
  some (.inr l1000_9_99))
def Gm (a0:Af) (l1000_9_16:List (List UInt8)):Option ((List UInt8)):=
 (G3 a0.NotColors).bind fun r95=>
 (iter (fun(v:Int×(List (List UInt8)))=>Eu r95 v.1 v.2) FU ((0:Int),l1000_9_16)).bind (fun o0=>Gl a0 o0)
def Fy (vt13_117:Int) (l1000_9_126:List (List UInt8)):Option ((Int×(List (List UInt8)))⊕((List (List UInt8)))):=
 some (.inl ((Ab (vt13_117+1)),l1000_9_126))
def DL (vt13_117:Int) (l1000_9_118:List (List UInt8)) (vt21_123:List UInt8):Option ((Int×(List (List UInt8)))⊕((List (List UInt8)))):=
 (cat ([]:List UInt8) vt21_123).bind fun s125=>
 (if(s125 != ([]:List UInt8))=true then
  (app 16 l1000_9_118 ([s125]:List (List UInt8))).bind fun l129=>
  Fy vt13_117 l129
 else
  Fy vt13_117 l1000_9_118)
def Ev (r114:(List (Int))) (vt13_117:Int) (l1000_9_118:List (List UInt8)):Option ((Int×(List (List UInt8)))⊕((List (List UInt8)))):=
 (if(decide (vt13_117<(r114.length:Int)))=true then
  (idx r114 vt13_117).bind fun e122=>
  (some (if(decide (e122<0))=true then true else decide (5≤e122))).bind fun b130=>
  (if b130=true then
   DL vt13_117 l1000_9_118 ([]:List UInt8)
  else
   (need (0≤e122∧e122<((5:Nat):Int))).bind fun u132=>
   DL vt13_117 l1000_9_118 (Ee.getD ((e122).toNat) []))
 else
  some (.inr l1000_9_118))
def Gn (a0:Af) (l1000_9_14:List (List UInt8)):Option ((List UInt8)):=
 (G3 a0.Colors).bind fun r114=>
 (iter (fun(v:Int×(List (List UInt8)))=>Ev r114 v.1 v.2) FU ((0:Int),l1000_9_14)).bind (fun o0=>Gm a0 o0)
def Fz (vt13_136:Int) (l1000_9_145:List (List UInt8)):Option ((Int×(List (List UInt8)))⊕((List (List UInt8)))):=
 some (.inl ((Ab (vt13_136+1)),l1000_9_145))
def Ew (r133:(List (Int))) (vt13_136:Int) (l1000_9_137:List (List UInt8)):Option ((Int×(List (List UInt8)))⊕((List (List UInt8)))):=
 (if(decide (vt13_136<(r133.length:Int)))=true then
  (idx r133 vt13_136).bind fun e141=>
  (need (0≤e141)).bind fun u142=>
  (Dp (Ab ((1:Int)*2 ^ (min (e141).toNat (IntKind.i64).bits)))).bind fun r143=>
  (cat CU r143).bind fun s144=>
  (if(s144 != ([]:List UInt8))=true then
   (app 16 l1000_9_137 ([s144]:List (List UInt8))).bind fun l148=>
   Fz vt13_136 l148
  else
   Fz vt13_136 l1000_9_137)
 else
  some (.inr l1000_9_137))
def Gr (a0:Af) (l1000_9_12:List (List UInt8)):Option ((List UInt8)):=
 (G3 a0.NotTypes).bind fun r133=>
 (iter (fun(v:Int×(List (List UInt8)))=>Ew r133 v.1 v.2) FU ((0:Int),l1000_9_12)).bind (fun o0=>Gn a0 o0)
def FA (vt13_152:Int) (l1000_9_161:List (List UInt8)):Option ((Int×(List (List UInt8)))⊕((List (List UInt8)))):=
 some (.inl ((Ab (vt13_152+1)),l1000_9_161))
def Ex (r149:(List (Int))) (vt13_152:Int) (l1000_9_153:List (List UInt8)):Option ((Int×(List (List UInt8)))⊕((List (List UInt8)))):=
 (if(decide (vt13_152<(r149.length:Int)))=true then
  (idx r149 vt13_152).bind fun e157=>
  (need (0≤e157)).bind fun u158=>
  (Dp (Ab ((1:Int)*2 ^ (min (e157).toNat (IntKind.i64).bits)))).bind fun r159=>
  (cat ([]:List UInt8) r159).bind fun s160=>
  (if(s160 != ([]:List UInt8))=true then
   (app 16 l1000_9_153 ([s160]:List (List UInt8))).bind fun l164=>
   FA vt13_152 l164
  else
   FA vt13_152 l1000_9_153)
 else
  some (.inr l1000_9_153))
def EV (a0:Af) (l1000_9_10:List (List UInt8)):Option ((List UInt8)):=
 (G3 a0.Types).bind fun r149=>
 (iter (fun(v:Int×(List (List UInt8)))=>Ex r149 v.1 v.2) FU ((0:Int),l1000_9_10)).bind (fun o0=>Gr a0 o0)
def FB (a0:Af) (l1000_9_7:List (List UInt8)):Option ((List UInt8)):=
 (idx (⟨([]:List UInt8),KR,Jd⟩:A3 (List UInt8)).l a0.Self).bind fun e9=>
 (if(e9 != ([]:List UInt8))=true then
  (app 16 l1000_9_7 ([e9]:List (List UInt8))).bind fun l166=>
  EV a0 l166
 else
  EV a0 l1000_9_7)
def FC (a0:Af) (l1000_9_4:List (List UInt8)):Option ((List UInt8)):=
 (idx (⟨([]:List UInt8),ID,G1⟩:A3 (List UInt8)).l a0.Who).bind fun e6=>
 (if(e6 != ([]:List UInt8))=true then
  (app 16 l1000_9_4 ([e6]:List (List UInt8))).bind fun l168=>
  FB a0 l168
 else
  FB a0 l1000_9_4)
def II (a0:Af):Option ((List UInt8)):=
 (CR a0).bind fun r1=>
 (if(!r1)=true then
  some ([]:List UInt8)
 else
  (Ic a0.Zone).bind fun r3=>
  (if(r3 != ([]:List UInt8))=true then
   (app 16 ([]:List (List UInt8)) ([r3]:List (List UInt8))).bind fun l170=>
   FC a0 l170
  else
   FC a0 ([]:List (List UInt8))))
def VD (a0:Af) (r:(List UInt8)):Prop:=Ah Tryz.prog I0 131 [vA A7 a0] (· =vS r)
theorem NN {a0:Af} {r:(List UInt8)} (h:II a0=some r):VD a0 r:=by
 refine Ah.bo Ag Tryz.func131 rfl Tryz.ntmps131 [.tmp 2] fun _ _ _ _=>?_
 unfold II at h
 refine Rg [.a,.a] (sl 89 [(1,vP [1] (0))] [bx [1] (A7 a0)]) (aN)<|hS ?_
 obtain⟨r1,hr1,h⟩:=bS h
 refine Gg [.a,(.c (vB r1)),.a] (u [] [(7,vB (!r1))]) (aC (Em hr1)<|aN)<|iC h (fun h=>?_) (fun h=>?_)
 ·exact Rg [.a] (sl 89 [(2,vS ([]:List UInt8))] []) (aN)<|hR<|Tr<|bQ _ (congrArg vS (sI h))
 refine hK<|Tn<|Gg (nA 3) (uo [7] [(3,vP [9] (0))] [.e (bx [9] [.nils]),.k 0]) (aC (And.intro trivial kS)<|aN)<|Ow [9] 0 [1000,9] 9 1 (sl 89 [(1,vP [1] (0)),(3,vP [9] (0))] [Bl [1000,9] 9 1 eS ([]:List (List UInt8)),bx [9] [.osl [1000,9]],bx [1] (A7 a0)])<|Gg (nA 3) (u [] [(4,.c (.bmv 174 [.ptr [9] (0)]))]) (aC (show True∧True from⟨trivial,trivial⟩)<|aN)<|hS<|hO ?_
 obtain⟨r3,hr3,h⟩:=bS h
 refine Gp 4 [.a,.a,.a,(.c (vS r3))] (u [] [(12,.c (.bmv 174 [.ptr [9] (0)])),(13,vP [1] (0)),(14,vI a0.Zone),(15,vS r3)]) (aC (O4 hr3)<|aN)<|Nj (X:=(List (List UInt8))) (fun v=>(uo [12,13,14,15] [] [.e (Bl [1000,9] 9 1 eS v),.k 1,.k 2])) (fun v=>FC a0 v=some r) rfl rfl ?_ ?_
 ·refine js 16 [vS r3] [.ptr [9] (0)] Tryz.func174 Tryz.ntmps174 [] rfl rfl rfl rfl fun _ _ _ _=>Gg [.a,.a] (u [] [(5,vB (r3 != ([]:List UInt8)))]) (aN)<|iC h (fun h=>?_) (fun h=>?_)
  ·obtain⟨z6,j8,h⟩:=bS h
   refine Re [.a,.a,.a,.a,.a,.a,.a,(.e z6.length (z6.flatMap (eS))),.a,.a,.a] (sg 16 [(0,vP [9] (0)),(1,vS r3),(5,vB (r3 != ([]:List UInt8))),(6,vP [9] (0)),(7,vP [9] (0)),(8,vP [9] (0)),(9,vP [9] (0)),(11,vS r3),(12,vO [12,16]),(13,vO [1000,9]),(14,vP [9] (0)),(15,vP [9] (0))] [Bl [1000,9] 9 1 eS z6,Bl [12,16] 9 1 eS ([r3]:List (List UInt8)),bx [9] [.osl [1000,9]],bx [1] (A7 a0)] 89 [(1,vP [1] (0)),(3,vP [9] (0)),(4,.c (.bmv 174 [.ptr [9] (0)])),(12,.c (.bmv 174 [.ptr [9] (0)])),(13,vP [1] (0)),(14,vI a0.Zone),(15,vS r3)] [16]) (aC (show True∧True from⟨trivial,trivial⟩)<|aC (M4 j8 eS)<|aC (Du j8)<|aC (show True∧True from⟨trivial,trivial⟩)<|aN)<|nN (.tup []) ⟨z6,h,lT⟩
  refine hK<|nN (.tup []) ⟨([]:List (List UInt8)),h,lT⟩
 rintro q3 d3
 replace d3:FC a0 q3=some r:=d3
 unfold FC at d3
 refine Gw [] (u [] []) (aN)<|Tn<|hS<|hO ?_
 obtain⟨e6,he6,d3⟩:=bS d3
 refine Gp 5 [.a,.a,.a,.a,(.v (vS e6))] (u [] [(17,.c (.bmv 174 [.ptr [9] (0)])),(18,vA (Vk (eS)) (⟨([]:List UInt8),ID,G1⟩:A3 (List UInt8))),(19,vP [1] (1)),(20,vI a0.Who),(21,vS e6)]) (aC (And.intro (show True∧(True∧(True∧True))from⟨trivial,⟨trivial,⟨trivial,trivial⟩⟩⟩) aw)<|aC (show (0≤a0.Who∧a0.Who<((3:Nat):Int))∧(a0.Who).toNat *1+1≤(Vk (eS) (⟨([]:List UInt8),ID,G1⟩:A3 (List UInt8))).length ∧Me false ((a0.Who).toNat *1) 1 (Vk (eS) (⟨([]:List UInt8),ID,G1⟩:A3 (List UInt8)))=vS e6 from⟨Bm he6,I5 (e:=eS) (N:=1) (l:=(⟨([]:List UInt8),ID,G1⟩:A3 (List UInt8)).l) (base:=0) (pre:=[]) (post:=[]) (by kernel_rfl) rfl he6 Vi (o:=0) (by simp) (by decide) (by decide) (by kernel_rfl)⟩)<|aC (Eq.refl (vS e6))<|aN)<|Run.inlJ (X:=(List (List UInt8))) (fun v=>(sl 89 [(1,vP [1] (0)),(3,vP [9] (0)),(4,.c (.bmv 174 [.ptr [9] (0)]))] [Bl [1000,9] 9 1 eS v,bx [9] [.osl [1000,9]],bx [1] (A7 a0)])) (fun v=>FB a0 v=some r) rfl rfl ?_ ?_
 ·refine js 22 [vS e6] [.ptr [9] (0)] Tryz.func174 Tryz.ntmps174 [] rfl rfl rfl rfl fun _ _ _ _=>Rg [.a,.a] (sg 16 [(0,vP [9] (0)),(1,vS e6),(5,vB (e6 != ([]:List UInt8)))] [Bl [1000,9] 9 1 eS q3,bx [9] [.osl [1000,9]],bx [1] (A7 a0)] 89 [(1,vP [1] (0)),(3,vP [9] (0)),(4,.c (.bmv 174 [.ptr [9] (0)])),(17,.c (.bmv 174 [.ptr [9] (0)])),(18,vA (Vk (eS)) (⟨([]:List UInt8),ID,G1⟩:A3 (List UInt8))),(19,vP [1] (1)),(20,vI a0.Who),(21,vS e6)] [22]) (aN)<|iC d3 (fun d3=>?_) (fun d3=>?_)
  ·obtain⟨y6,i8,d3⟩:=bS d3
   refine Ge [.a,.a,.a,.a,.a,.a,.a,(.e y6.length (y6.flatMap (eS))),.a,.a,.a] (uo [] [(6,vP [9] (0)),(7,vP [9] (0)),(8,vP [9] (0)),(9,vP [9] (0)),(11,vS e6),(12,vO [12,22]),(13,vO [1000,9]),(14,vP [9] (0)),(15,vP [9] (0))] [.e (Bl [1000,9] 9 1 eS y6),.e (Bl [12,22] 9 1 eS ([e6]:List (List UInt8))),.k 1,.k 2]) (aC (show True∧True from⟨trivial,trivial⟩)<|aC (M4 i8 eS)<|aC (Du i8)<|aC (show True∧True from⟨trivial,trivial⟩)<|aN)<|nN (.tup []) ⟨y6,d3,lT⟩
  refine hK<|nN (.tup []) ⟨q3,d3,lT⟩
 rintro k5 i3
 replace i3:FB a0 k5=some r:=i3
 unfold FB at i3
 refine Gw [] (u [] []) (aN)<|Tn<|hS<|hO ?_
 obtain⟨e9,he9,i3⟩:=bS i3
 refine Gp 5 [.a,.a,.a,.a,(.v (vS e9))] (u [] [(23,.c (.bmv 174 [.ptr [9] (0)])),(24,vA (Vk (eS)) (⟨([]:List UInt8),KR,Jd⟩:A3 (List UInt8))),(25,vP [1] (2)),(26,vI a0.Self),(27,vS e9)]) (aC (And.intro (show True∧(True∧(True∧True))from⟨trivial,⟨trivial,⟨trivial,trivial⟩⟩⟩) aw)<|aC (show (0≤a0.Self∧a0.Self<((3:Nat):Int))∧(a0.Self).toNat *1+1≤(Vk (eS) (⟨([]:List UInt8),KR,Jd⟩:A3 (List UInt8))).length ∧Me false ((a0.Self).toNat *1) 1 (Vk (eS) (⟨([]:List UInt8),KR,Jd⟩:A3 (List UInt8)))=vS e9 from⟨Bm he9,I5 (e:=eS) (N:=1) (l:=(⟨([]:List UInt8),KR,Jd⟩:A3 (List UInt8)).l) (base:=0) (pre:=[]) (post:=[]) (by kernel_rfl) rfl he9 Vi (o:=0) (by simp) (by decide) (by decide) (by kernel_rfl)⟩)<|aC (Eq.refl (vS e9))<|aN)<|Nj (X:=(List (List UInt8))) (fun v=>(uo [23,24,25,26,27] [] [.e (Bl [1000,9] 9 1 eS v),.k 1,.k 2])) (fun v=>EV a0 v=some r) rfl rfl ?_ ?_
 ·refine js 28 [vS e9] [.ptr [9] (0)] Tryz.func174 Tryz.ntmps174 [] rfl rfl rfl rfl fun _ _ _ _=>Gg [.a,.a] (u [] [(5,vB (e9 != ([]:List UInt8)))]) (aN)<|iC i3 (fun i3=>?_) (fun i3=>?_)
  ·obtain⟨x6,d8,i3⟩:=bS i3
   refine Ge [.a,.a,.a,.a,.a,.a,.a,(.e x6.length (x6.flatMap (eS))),.a,.a,.a] (uo [] [(6,vP [9] (0)),(7,vP [9] (0)),(8,vP [9] (0)),(9,vP [9] (0)),(11,vS e9),(12,vO [12,28]),(13,vO [1000,9]),(14,vP [9] (0)),(15,vP [9] (0))] [.e (Bl [1000,9] 9 1 eS x6),.e (Bl [12,28] 9 1 eS ([e9]:List (List UInt8))),.k 1,.k 2]) (aC (show True∧True from⟨trivial,trivial⟩)<|aC (M4 d8 eS)<|aC (Du d8)<|aC (show True∧True from⟨trivial,trivial⟩)<|aN)<|nN (.tup []) ⟨x6,i3,lT⟩
  refine hK<|nN (.tup []) ⟨k5,i3,lT⟩
 rintro m4 k3
 replace k3:EV a0 m4=some r:=k3
 unfold EV at k3
 refine Gw [] (u [] []) (aN)<|Tn<|hS<|hO<|Gp 3 (nA 3) (u [] [(29,vP [9] (0)),(30,vP [1] (3)),(31,vI a0.Types)]) (aN)<|Nj (X:=(List (List UInt8))) (fun v=>(uo [29,30,31] [] [.e (Bl [1000,9] 9 1 eS v),.k 1,.k 2])) (fun v=>Gr a0 v=some r) rfl rfl ?_ ?_
 ·refine Ei 32 [vP [9] (0),vI a0.Types,vS ([]:List UInt8),.c (.fn 177)] [] Tryz.func176 Tryz.ntmps176 [] rfl rfl rfl rfl fun _ _ _ _=>?_
  obtain⟨k4,t11,k3⟩:=bS k3
  refine Rg [.a,(.c (vL (eI .i64) k4)),.a,.a] (sg 25 [(0,vP [9] (0)),(2,vS ([]:List UInt8)),(3,.c (.fn 177)),(11,vL (eI .i64) k4),(12,vI (k4.length:Int)),(13,vI 0)] [Bl [1000,9] 9 1 eS m4,bx [9] [.osl [1000,9]],bx [1] (A7 a0)] 89 [(1,vP [1] (0)),(3,vP [9] (0)),(4,.c (.bmv 174 [.ptr [9] (0)])),(29,vP [9] (0)),(30,vP [1] (3)),(31,vI a0.Types)] [32]) (aC (G4 t11)<|aN)<|hB ?_
  obtain⟨d13,d10,k3⟩:=bS k3
  refine Gi (fun(v:Int×(List (List UInt8)))=>(uo [] [(13,vI v.1)] [.e (Bl [1000,9] 9 1 eS v.2),.k 1,.k 2])) d10 (wT) ?_
  rintro⟨k1,t1⟩ i7 n0 x10
  replace n0:Ex k4 k1 t1=some i7:=n0
  unfold Ex at n0
  refine Gg [.a] (u [] [(14,vB (decide (k1<(k4.length:Int))))]) (aN)<|hS<|iC n0 (fun n0=>?_) (fun n0=>?_)
  ·refine hK<|Tn<|hS<|hB ?_
   obtain⟨j3,q7,n0⟩:=bS n0
   refine Gg [.a,(.v (vI j3)),.a] (u [14] [(9,vI j3)]) (aC (Bm q7)<|aC (GN q7 (I1 .i64) 0 1 false (vI j3))<|aC (Eq.refl (vI j3))<|aN)<|hO<|Gp 4 (nA 4) (u [] [(17,vP [9] (0)),(18,vS ([]:List UInt8)),(19,.c (.fn 177)),(20,vI j3)]) (aN)<|rI rfl rfl<|Ei 21 [vI j3] [] Tryz.func177 Tryz.ntmps177 [.tmp 2] rfl rfl rfl rfl fun _ _ _ _=>Gg [.a] (u [] []) (aN) ?_
   obtain⟨n13,z11,m7,x11,n0⟩:=JX n0
   refine Rg [.a,.a,(.c (vS m7)),.a] (sg 6 [(2,vS m7)] [Bl [1000,9] 9 1 eS t1,bx [9] [.osl [1000,9]],bx [1] (A7 a0)] 114 [(0,vP [9] (0)),(2,vS ([]:List UInt8)),(3,.c (.fn 177)),(9,vI j3),(11,vL (eI .i64) k4),(12,vI (k4.length:Int)),(13,vI k1),(17,vP [9] (0)),(18,vS ([]:List UInt8)),(19,.c (.fn 177)),(20,vI j3),(26,vP [1] (0)),(28,vP [9] (0)),(29,.c (.bmv 174 [.ptr [9] (0)])),(54,vP [9] (0)),(55,vP [1] (3)),(56,vI a0.Types)] [21,32]) (aC (GU z11)<|aC (GL x11)<|aN)<|hR<|nR (vS m7) ?_
   obtain⟨j5,o8,n0⟩:=bS n0
   refine Gp 1 [(.v (vS j5))] (u [] [(22,vS j5)]) (aC (DB o8)<|aC (congrArg (fun z=>V.c (.str z)) (DC o8).symm)<|aN)<|Nj (X:=(List (List UInt8))) (fun v=>(uo [9,17,18,19,20,21,22] [] [.e (Bl [1000,9] 9 1 eS v),.k 1,.k 2])) (fun v=>FA k1 v=some i7) rfl rfl ?_ ?_
   ·refine Ei 23 [vP [9] (0),vS j5] [] Tryz.func174 Tryz.ntmps174 [] rfl rfl rfl rfl fun _ _ _ _=>Gg [.a,.a] (u [] [(5,vB (j5 != ([]:List UInt8)))]) (aN)<|iC n0 (fun n0=>?_) (fun n0=>?_)
    ·obtain⟨t6,z7,n0⟩:=bS n0
     refine Ge [.a,.a,.a,.a,.a,.a,.a,(.e t6.length (t6.flatMap (eS))),.a,.a,.a] (uo [] [(6,vP [9] (0)),(7,vP [9] (0)),(8,vP [9] (0)),(9,vP [9] (0)),(11,vS j5),(12,vO [12,23,32]),(13,vO [1000,9]),(14,vP [9] (0)),(15,vP [9] (0))] [.e (Bl [1000,9] 9 1 eS t6),.e (Bl [12,23,32] 9 1 eS ([j5]:List (List UInt8))),.k 1,.k 2]) (aC (show True∧True from⟨trivial,trivial⟩)<|aC (M4 z7 eS)<|aC (Du z7)<|aC (show True∧True from⟨trivial,trivial⟩)<|aN)<|nN (.tup []) ⟨t6,n0,lT⟩
    refine hK<|nN (.tup []) ⟨t1,n0,lT⟩
   rintro i4 q5
   replace q5:FA k1 i4=some i7:=q5
   unfold FA at q5
   refine Gw [] (u [] []) (aN)<|qN<|Tn<|Ge [.a,.a] (u [] [(13,vI (Ab (k1+1))),(24,vI (Ab (k1+1)))]) (aN)<|Tn ⟨((Ab (k1+1)),i4),(sI q5).symm,wT⟩
  refine hE<|Te ?_
  obtain rfl:=x10 _ (sI n0).symm
  refine Te<|qX<|nN (.tup []) ⟨t1,k3,lT⟩
 rintro n4 m3
 replace m3:Gr a0 n4=some r:=m3
 unfold Gr at m3
 refine Gw [] (u [] []) (aN)<|Tn<|hS<|hO<|Rp 3 (nA 3) (sl 89 [(1,vP [1] (0)),(3,vP [9] (0)),(4,.c (.bmv 174 [.ptr [9] (0)])),(33,vP [9] (0)),(34,vP [1] (4)),(35,vI a0.NotTypes)] [Bl [1000,9] 9 1 eS n4,bx [9] [.osl [1000,9]],bx [1] (A7 a0)]) (aN)<|Nj (X:=(List (List UInt8))) (fun v=>(uo [33,34,35] [] [.e (Bl [1000,9] 9 1 eS v),.k 1,.k 2])) (fun v=>Gn a0 v=some r) rfl rfl ?_ ?_
 ·refine Ei 36 [vP [9] (0),vI a0.NotTypes,vS CU,.c (.fn 177)] [] Tryz.func176 Tryz.ntmps176 [] rfl rfl rfl rfl fun _ _ _ _=>?_
  obtain⟨j4,p11,m3⟩:=bS m3
  refine Gg [.a,(.c (vL (eI .i64) j4)),.a,.a] (u [1] [(11,vL (eI .i64) j4),(12,vI (j4.length:Int)),(13,vI 0)]) (aC (G4 p11)<|aN)<|hB ?_
  obtain⟨z12,z9,m3⟩:=bS m3
  refine Gi (fun(v:Int×(List (List UInt8)))=>(uo [] [(13,vI v.1)] [.e (Bl [1000,9] 9 1 eS v.2),.k 1,.k 2])) z9 (wT) ?_
  rintro⟨j1,q1⟩ d7 m0 t10
  replace m0:Ew j4 j1 q1=some d7:=m0
  unfold Ew at m0
  refine Gg [.a] (u [] [(14,vB (decide (j1<(j4.length:Int))))]) (aN)<|hS<|iC m0 (fun m0=>?_) (fun m0=>?_)
  ·refine hK<|Tn<|hS<|hB ?_
   obtain⟨o2,p7,m0⟩:=bS m0
   refine Gg [.a,(.v (vI o2)),.a] (u [14] [(9,vI o2)]) (aC (Bm p7)<|aC (GN p7 (I1 .i64) 0 1 false (vI o2))<|aC (Eq.refl (vI o2))<|aN)<|hO<|Gp 4 (nA 4) (u [] [(17,vP [9] (0)),(18,vS CU),(19,.c (.fn 177)),(20,vI o2)]) (aN)<|rI rfl rfl<|Ei 21 [vI o2] [] Tryz.func177 Tryz.ntmps177 [.tmp 2] rfl rfl rfl rfl fun _ _ _ _=>Rg [.a] (sg 6 [(0,vI o2)] [Bl [1000,9] 9 1 eS q1,bx [9] [.osl [1000,9]],bx [1] (A7 a0)] 114 [(0,vP [9] (0)),(2,vS CU),(3,.c (.fn 177)),(9,vI o2),(11,vL (eI .i64) j4),(12,vI (j4.length:Int)),(13,vI j1),(17,vP [9] (0)),(18,vS CU),(19,.c (.fn 177)),(20,vI o2),(26,vP [1] (0)),(28,vP [9] (0)),(29,.c (.bmv 174 [.ptr [9] (0)])),(58,vP [9] (0)),(59,vP [1] (4)),(60,vI a0.NotTypes)] [21,36]) (aN) ?_
   obtain⟨m13,y11,k7,q11,m0⟩:=JX m0
   refine Gg [.a,.a,(.c (vS k7)),.a] (u [0] [(2,vS k7)]) (aC (GU y11)<|aC (GL q11)<|aN)<|hR<|nR (vS k7) ?_
   obtain⟨i5,n8,m0⟩:=bS m0
   refine Gp 1 [(.v (vS i5))] (u [] [(22,vS i5)]) (aC (DB n8)<|aC (congrArg (fun z=>V.c (.str z)) (DC n8).symm)<|aN)<|Nj (X:=(List (List UInt8))) (fun v=>(uo [9,17,18,19,20,21,22] [] [.e (Bl [1000,9] 9 1 eS v),.k 1,.k 2])) (fun v=>Fz j1 v=some d7) rfl rfl ?_ ?_
   ·refine Ei 23 [vP [9] (0),vS i5] [] Tryz.func174 Tryz.ntmps174 [] rfl rfl rfl rfl fun _ _ _ _=>Gg [.a,.a] (u [] [(5,vB (i5 != ([]:List UInt8)))]) (aN)<|iC m0 (fun m0=>?_) (fun m0=>?_)
    ·obtain⟨q6,y7,m0⟩:=bS m0
     refine Ge [.a,.a,.a,.a,.a,.a,.a,(.e q6.length (q6.flatMap (eS))),.a,.a,.a] (uo [] [(6,vP [9] (0)),(7,vP [9] (0)),(8,vP [9] (0)),(9,vP [9] (0)),(11,vS i5),(12,vO [12,23,36]),(13,vO [1000,9]),(14,vP [9] (0)),(15,vP [9] (0))] [.e (Bl [1000,9] 9 1 eS q6),.e (Bl [12,23,36] 9 1 eS ([i5]:List (List UInt8))),.k 1,.k 2]) (aC (show True∧True from⟨trivial,trivial⟩)<|aC (M4 y7 eS)<|aC (Du y7)<|aC (show True∧True from⟨trivial,trivial⟩)<|aN)<|nN (.tup []) ⟨q6,m0,lT⟩
    refine hK<|nN (.tup []) ⟨q1,m0,lT⟩
   rintro d4 p5
   replace p5:Fz j1 d4=some d7:=p5
   unfold Fz at p5
   refine Gw [] (u [] []) (aN)<|qN<|Tn<|Ge [.a,.a] (u [] [(13,vI (Ab (j1+1))),(24,vI (Ab (j1+1)))]) (aN)<|Tn ⟨((Ab (j1+1)),d4),(sI p5).symm,wT⟩
  refine hE<|Te ?_
  obtain rfl:=t10 _ (sI m0).symm
  refine Te<|qX<|nN (.tup []) ⟨q1,m3,lT⟩
 rintro m6 n3
 replace n3:Gn a0 m6=some r:=n3
 unfold Gn at n3
 refine Gw [] (u [] []) (aN)<|Tn<|hS<|hO<|Gp 3 (nA 3) (u [] [(37,vP [9] (0)),(38,vP [1] (5)),(39,vI a0.Colors)]) (aN)<|Nj (X:=(List (List UInt8))) (fun v=>(uo [37,38,39] [] [.e (Bl [1000,9] 9 1 eS v),.k 1,.k 2])) (fun v=>Gm a0 v=some r) rfl rfl ?_ ?_
 ·refine Ei 40 [vP [9] (0),vI a0.Colors,vS ([]:List UInt8),.c (.fn 178)] [] Tryz.func176 Tryz.ntmps176 [] rfl rfl rfl rfl fun _ _ _ _=>?_
  obtain⟨k2,o11,n3⟩:=bS n3
  refine Gg [.a,(.c (vL (eI .i64) k2)),.a,.a] (u [1] [(11,vL (eI .i64) k2),(12,vI (k2.length:Int)),(13,vI 0)]) (aC (G4 o11)<|aN)<|hB ?_
  obtain⟨y12,y9,n3⟩:=bS n3
  refine Gi (fun(v:Int×(List (List UInt8)))=>(uo [] [(13,vI v.1)] [.e (Bl [1000,9] 9 1 eS v.2),.k 1,.k 2])) y9 (wT) ?_
  rintro⟨t0,y0⟩ y4 q0 q10
  replace q0:Ev k2 t0 y0=some y4:=q0
  unfold Ev at q0
  refine Rg [.a] (sg 25 [(0,vP [9] (0)),(2,vS ([]:List UInt8)),(3,.c (.fn 178)),(11,vL (eI .i64) k2),(12,vI (k2.length:Int)),(13,vI t0),(14,vB (decide (t0<(k2.length:Int))))] [Bl [1000,9] 9 1 eS y0,bx [9] [.osl [1000,9]],bx [1] (A7 a0)] 89 [(1,vP [1] (0)),(3,vP [9] (0)),(4,.c (.bmv 174 [.ptr [9] (0)])),(37,vP [9] (0)),(38,vP [1] (5)),(39,vI a0.Colors)] [40]) (aN)<|hS<|iC q0 (fun q0=>?_) (fun q0=>?_)
  ·refine hK<|Tn<|hS<|hB ?_
   obtain⟨z0,o7,q0⟩:=bS q0
   refine Gg [.a,(.v (vI z0)),.a] (u [14] [(9,vI z0)]) (aC (Bm o7)<|aC (GN o7 (I1 .i64) 0 1 false (vI z0))<|aC (Eq.refl (vI z0))<|aN)<|hO<|Gp 4 (nA 4) (u [] [(17,vP [9] (0)),(18,vS ([]:List UInt8)),(19,.c (.fn 178)),(20,vI z0)]) (aN)<|Nj (X:=(List UInt8)) (fun v=>(u [9,19,20] [(21,vS v)])) (fun v=>DL t0 y0 v=some y4) rfl rfl ?_ ?_
   ·refine Ei 21 [vI z0] [] Tryz.func178 Tryz.ntmps178 [.tmp 2] rfl rfl rfl rfl fun _ _ _ _=>Gg [.a] (u [] []) (aN)<|hS ?_
    obtain⟨j7,k11,q0⟩:=bS q0
    refine Gg [.a,.a,.a,.a,.a,(.v (vB j7))] (u [] [(8,vB j7)]) (aG ((decide (z0<0))==false)<|aF (decide (z0<0))<|aB k11<|aN)<|iC q0 (fun q0=>?_) (fun q0=>?_)
    ·refine Gg [.a] (u [0,8] [(2,vS ([]:List UInt8))]) (aN)<|hR<|Tr<|nR (vS ([]:List UInt8)) ⟨([]:List UInt8),q0,lT⟩
    refine hK<|Tn<|hS<|hO<|Gp 1 [.a] (u [] [(9,vI z0)]) (aN) ?_
    obtain⟨k13,q8,q0⟩:=bS q0
    refine Run.inl rfl rfl (EB.gAddr (g:=1) (n:=5) (k:= .i64) (i:=z0) (E:=9) rfl (GU q8) ?_)
    refine Rp 0 [] (sg 12 [(0,vI z0),(8,vB j7),(9,vI z0),(10,.c (.gptr 1 ((z0).toNat)))] [Bl [1000,9] 9 1 eS y0,bx [9] [.osl [1000,9]],bx [1] (A7 a0)] 114 [(0,vP [9] (0)),(2,vS ([]:List UInt8)),(3,.c (.fn 178)),(9,vI z0),(11,vL (eI .i64) k2),(12,vI (k2.length:Int)),(13,vI t0),(17,vP [9] (0)),(18,vS ([]:List UInt8)),(19,.c (.fn 178)),(20,vI z0),(26,vP [1] (0)),(28,vP [9] (0)),(29,.c (.bmv 174 [.ptr [9] (0)])),(62,vP [9] (0)),(63,vP [1] (5)),(64,vI a0.Colors)] [21,40]) (aN)<|Run.inl rfl rfl (EB.gLoad (g:=1) (off:=(z0).toNat) (tab:=Ee) rfl QT (kC (GU q8)) ?_)
    refine Gw [.a] (u [] [(2,vS (Ee.getD ((z0).toNat) []))]) (aN)<|Tn<|hR<|nR (vS (Ee.getD ((z0).toNat) [])) ⟨(Ee.getD ((z0).toNat) []),q0,lT⟩
   rintro x5 o1
   replace o1:DL t0 y0 x5=some y4:=o1
   unfold DL at o1
   obtain⟨y2,m8,o1⟩:=bS o1
   refine Gp 1 [(.v (vS y2))] (u [] [(22,vS y2)]) (aC (DB m8)<|aC (congrArg (fun z=>V.c (.str z)) (DC m8).symm)<|aN)<|Nj (X:=(List (List UInt8))) (fun v=>(uo [17,18,21,22] [] [.e (Bl [1000,9] 9 1 eS v),.k 1,.k 2])) (fun v=>Fy t0 v=some y4) rfl rfl ?_ ?_
   ·refine Ei 23 [vP [9] (0),vS y2] [] Tryz.func174 Tryz.ntmps174 [] rfl rfl rfl rfl fun _ _ _ _=>Gg [.a,.a] (u [] [(5,vB (y2 != ([]:List UInt8)))]) (aN)<|iC o1 (fun o1=>?_) (fun o1=>?_)
    ·obtain⟨p6,x7,o1⟩:=bS o1
     refine Re [.a,.a,.a,.a,.a,.a,.a,(.e p6.length (p6.flatMap (eS))),.a,.a,.a] (sg 16 [(0,vP [9] (0)),(1,vS y2),(5,vB (y2 != ([]:List UInt8))),(6,vP [9] (0)),(7,vP [9] (0)),(8,vP [9] (0)),(9,vP [9] (0)),(11,vS y2),(12,vO [12,23,40]),(13,vO [1000,9]),(14,vP [9] (0)),(15,vP [9] (0))] [Bl [1000,9] 9 1 eS p6,Bl [12,23,40] 9 1 eS ([y2]:List (List UInt8)),bx [9] [.osl [1000,9]],bx [1] (A7 a0)] 114 [(0,vP [9] (0)),(2,vS ([]:List UInt8)),(3,.c (.fn 178)),(11,vL (eI .i64) k2),(12,vI (k2.length:Int)),(13,vI t0),(17,vP [9] (0)),(18,vS ([]:List UInt8)),(21,vS x5),(22,vS y2),(26,vP [1] (0)),(28,vP [9] (0)),(29,.c (.bmv 174 [.ptr [9] (0)])),(62,vP [9] (0)),(63,vP [1] (5)),(64,vI a0.Colors)] [23,40]) (aC (show True∧True from⟨trivial,trivial⟩)<|aC (M4 x7 eS)<|aC (Du x7)<|aC (show True∧True from⟨trivial,trivial⟩)<|aN)<|nN (.tup []) ⟨p6,o1,lT⟩
    refine hK<|nN (.tup []) ⟨y0,o1,lT⟩
   rintro z3 o5
   replace o5:Fy t0 z3=some y4:=o5
   unfold Fy at o5
   refine Gw [] (u [] []) (aN)<|qN<|Tn<|Ge [.a,.a] (u [] [(13,vI (Ab (t0+1))),(24,vI (Ab (t0+1)))]) (aN)<|Tn ⟨((Ab (t0+1)),z3),(sI o5).symm,wT⟩
  refine hE<|Te ?_
  obtain rfl:=q10 _ (sI q0).symm
  refine Te<|qX<|nN (.tup []) ⟨y0,n3,lT⟩
 rintro o4 o3
 replace o3:Gm a0 o4=some r:=o3
 unfold Gm at o3
 refine Gw [] (u [] []) (aN)<|Tn<|hS<|hO<|Gp 3 (nA 3) (u [] [(41,vP [9] (0)),(42,vP [1] (6)),(43,vI a0.NotColors)]) (aN)<|Nj (X:=(List (List UInt8))) (fun v=>(uo [41,42,43] [] [.e (Bl [1000,9] 9 1 eS v),.k 1,.k 2])) (fun v=>Gl a0 v=some r) rfl rfl ?_ ?_
 ·refine Ei 44 [vP [9] (0),vI a0.NotColors,vS CU,.c (.fn 178)] [] Tryz.func176 Tryz.ntmps176 [] rfl rfl rfl rfl fun _ _ _ _=>?_
  obtain⟨t3,q12,o3⟩:=bS o3
  refine Rg [.a,(.c (vL (eI .i64) t3)),.a,.a] (sg 25 [(0,vP [9] (0)),(2,vS CU),(3,.c (.fn 178)),(11,vL (eI .i64) t3),(12,vI (t3.length:Int)),(13,vI 0)] [Bl [1000,9] 9 1 eS o4,bx [9] [.osl [1000,9]],bx [1] (A7 a0)] 89 [(1,vP [1] (0)),(3,vP [9] (0)),(4,.c (.bmv 174 [.ptr [9] (0)])),(41,vP [9] (0)),(42,vP [1] (6)),(43,vI a0.NotColors)] [44]) (aC (G4 q12)<|aN)<|hB ?_
  obtain⟨x12,x9,o3⟩:=bS o3
  refine Gi (fun(v:Int×(List (List UInt8)))=>(uo [] [(13,vI v.1)] [.e (Bl [1000,9] 9 1 eS v.2),.k 1,.k 2])) x9 (wT) ?_
  rintro⟨x0,d1⟩ x4 p0 p10
  replace p0:Eu t3 x0 d1=some x4:=p0
  unfold Eu at p0
  refine Gg [.a] (u [] [(14,vB (decide (x0<(t3.length:Int))))]) (aN)<|hS<|iC p0 (fun p0=>?_) (fun p0=>?_)
  ·refine hK<|Tn<|hS<|hB ?_
   obtain⟨i1,n7,p0⟩:=bS p0
   refine Gg [.a,(.v (vI i1)),.a] (u [14] [(9,vI i1)]) (aC (Bm n7)<|aC (GN n7 (I1 .i64) 0 1 false (vI i1))<|aC (Eq.refl (vI i1))<|aN)<|hO<|Gp 4 (nA 4) (u [] [(17,vP [9] (0)),(18,vS CU),(19,.c (.fn 178)),(20,vI i1)]) (aN)<|Nj (X:=(List UInt8)) (fun v=>(u [9,19,20] [(21,vS v)])) (fun v=>DK x0 d1 v=some x4) rfl rfl ?_ ?_
   ·refine Ei 21 [vI i1] [] Tryz.func178 Tryz.ntmps178 [.tmp 2] rfl rfl rfl rfl fun _ _ _ _=>Gg [.a] (u [] []) (aN)<|hS ?_
    obtain⟨p9,j11,p0⟩:=bS p0
    refine Rg [.a,.a,.a,.a,.a,(.v (vB p9))] (sg 12 [(0,vI i1),(8,vB p9)] [Bl [1000,9] 9 1 eS d1,bx [9] [.osl [1000,9]],bx [1] (A7 a0)] 114 [(0,vP [9] (0)),(2,vS CU),(3,.c (.fn 178)),(9,vI i1),(11,vL (eI .i64) t3),(12,vI (t3.length:Int)),(13,vI x0),(17,vP [9] (0)),(18,vS CU),(19,.c (.fn 178)),(20,vI i1),(26,vP [1] (0)),(28,vP [9] (0)),(29,.c (.bmv 174 [.ptr [9] (0)])),(66,vP [9] (0)),(67,vP [1] (6)),(68,vI a0.NotColors)] [21,44]) (aG ((decide (i1<0))==false)<|aF (decide (i1<0))<|aB j11<|aN)<|iC p0 (fun p0=>?_) (fun p0=>?_)
    ·refine Gg [.a] (u [0,8] [(2,vS ([]:List UInt8))]) (aN)<|hR<|Tr<|nR (vS ([]:List UInt8)) ⟨([]:List UInt8),p0,lT⟩
    refine hK<|Tn<|hS<|hO<|Gp 1 [.a] (u [] [(9,vI i1)]) (aN) ?_
    obtain⟨px,p8,p0⟩:=bS p0
    refine Run.inl rfl rfl (EB.gAddr (g:=1) (n:=5) (k:= .i64) (i:=i1) (E:=9) rfl (GU p8) ?_)
    refine Gp 0 [] (u [] []) (aN)<|Run.inl rfl rfl (EB.gLoad (g:=1) (off:=(i1).toNat) (tab:=Ee) rfl QT (kC (GU p8)) ?_)
    refine Gw [.a] (u [] [(2,vS (Ee.getD ((i1).toNat) []))]) (aN)<|Tn<|hR<|nR (vS (Ee.getD ((i1).toNat) [])) ⟨(Ee.getD ((i1).toNat) []),p0,lT⟩
   rintro t5 n1
   replace n1:DK x0 d1 t5=some x4:=n1
   unfold DK at n1
   obtain⟨x3,k8,n1⟩:=bS n1
   refine Gp 1 [(.v (vS x3))] (u [] [(22,vS x3)]) (aC (DB k8)<|aC (congrArg (fun z=>V.c (.str z)) (DC k8).symm)<|aN)<|Nj (X:=(List (List UInt8))) (fun v=>(uo [17,18,21,22] [] [.e (Bl [1000,9] 9 1 eS v),.k 1,.k 2])) (fun v=>Fx x0 v=some x4) rfl rfl ?_ ?_
   ·refine Ei 23 [vP [9] (0),vS x3] [] Tryz.func174 Tryz.ntmps174 [] rfl rfl rfl rfl fun _ _ _ _=>Rg [.a,.a] (sg 16 [(0,vP [9] (0)),(1,vS x3),(5,vB (x3 != ([]:List UInt8)))] [Bl [1000,9] 9 1 eS d1,bx [9] [.osl [1000,9]],bx [1] (A7 a0)] 114 [(0,vP [9] (0)),(2,vS CU),(3,.c (.fn 178)),(11,vL (eI .i64) t3),(12,vI (t3.length:Int)),(13,vI x0),(17,vP [9] (0)),(18,vS CU),(21,vS t5),(22,vS x3),(26,vP [1] (0)),(28,vP [9] (0)),(29,.c (.bmv 174 [.ptr [9] (0)])),(66,vP [9] (0)),(67,vP [1] (6)),(68,vI a0.NotColors)] [23,44]) (aN)<|iC n1 (fun n1=>?_) (fun n1=>?_)
    ·obtain⟨o6,t7,n1⟩:=bS n1
     refine Ge [.a,.a,.a,.a,.a,.a,.a,(.e o6.length (o6.flatMap (eS))),.a,.a,.a] (uo [] [(6,vP [9] (0)),(7,vP [9] (0)),(8,vP [9] (0)),(9,vP [9] (0)),(11,vS x3),(12,vO [12,23,44]),(13,vO [1000,9]),(14,vP [9] (0)),(15,vP [9] (0))] [.e (Bl [1000,9] 9 1 eS o6),.e (Bl [12,23,44] 9 1 eS ([x3]:List (List UInt8))),.k 1,.k 2]) (aC (show True∧True from⟨trivial,trivial⟩)<|aC (M4 t7 eS)<|aC (Du t7)<|aC (show True∧True from⟨trivial,trivial⟩)<|aN)<|nN (.tup []) ⟨o6,n1,lT⟩
    refine hK<|nN (.tup []) ⟨d1,n1,lT⟩
   rintro n2 n5
   replace n5:Fx x0 n2=some x4:=n5
   unfold Fx at n5
   refine Rw [] (sg 25 [(0,vP [9] (0)),(2,vS CU),(3,.c (.fn 178)),(11,vL (eI .i64) t3),(12,vI (t3.length:Int)),(13,vI x0)] [Bl [1000,9] 9 1 eS n2,bx [9] [.osl [1000,9]],bx [1] (A7 a0)] 89 [(1,vP [1] (0)),(3,vP [9] (0)),(4,.c (.bmv 174 [.ptr [9] (0)])),(41,vP [9] (0)),(42,vP [1] (6)),(43,vI a0.NotColors)] [44]) (aN)<|qN<|Tn<|Ge [.a,.a] (u [] [(13,vI (Ab (x0+1))),(24,vI (Ab (x0+1)))]) (aN)<|Tn ⟨((Ab (x0+1)),n2),(sI n5).symm,wT⟩
  refine hE<|Te ?_
  obtain rfl:=p10 _ (sI p0).symm
  refine Te<|qX<|nN (.tup []) ⟨d1,o3,lT⟩
 rintro j2 m1
 replace m1:Gl a0 j2=some r:=m1
 unfold Gl at m1
 refine Rw [] (sl 89 [(1,vP [1] (0)),(3,vP [9] (0)),(4,.c (.bmv 174 [.ptr [9] (0)]))] [Bl [1000,9] 9 1 eS j2,bx [9] [.osl [1000,9]],bx [1] (A7 a0)]) (aN)<|Tn<|Gj (X:=(List (List UInt8))) (fun v=>(uo [] [] [.e (Bl [1000,9] 9 1 eS v),.k 1,.k 2])) (fun v=>D8 a0 v=some r) ?_ ?_
 ·refine Gg (nA 3) (u [] [(47,vB (a0.Sub != ([]:List UInt8)))]) (aN)<|iC m1 (fun m1=>?_) (fun m1=>?_)
  ·refine hO ?_
   obtain⟨i6,i11,m1⟩:=bS m1
   refine Gp 4 [.a,.a,.a,(.v (vS i6))] (u [] [(48,.c (.bmv 174 [.ptr [9] (0)])),(49,vP [1] (7)),(50,vS a0.Sub),(51,vS i6)]) (aC (DB i11)<|aC (congrArg (fun z=>V.c (.str z)) (DC i11).symm)<|aN)<|Nj (X:=(List (List UInt8))) (fun v=>(uo [47,48,49,50,51] [] [.e (Bl [1000,9] 9 1 eS v),.k 1,.k 2])) (fun v=>EU a0 v=some r) rfl rfl ?_ ?_
   ·refine js 52 [vS i6] [.ptr [9] (0)] Tryz.func174 Tryz.ntmps174 [] rfl rfl rfl rfl fun _ _ _ _=>Gg [.a,.a] (u [] [(5,vB (i6 != ([]:List UInt8)))]) (aN)<|iC m1 (fun m1=>?_) (fun m1=>?_)
    ·obtain⟨i9,o10,m1⟩:=bS m1
     refine Ge [.a,.a,.a,.a,.a,.a,.a,(.e i9.length (i9.flatMap (eS))),.a,.a,.a] (uo [] [(6,vP [9] (0)),(7,vP [9] (0)),(8,vP [9] (0)),(9,vP [9] (0)),(11,vS i6),(12,vO [12,52]),(13,vO [1000,9]),(14,vP [9] (0)),(15,vP [9] (0))] [.e (Bl [1000,9] 9 1 eS i9),.e (Bl [12,52] 9 1 eS ([i6]:List (List UInt8))),.k 1,.k 2]) (aC (show True∧True from⟨trivial,trivial⟩)<|aC (M4 o10 eS)<|aC (Du o10)<|aC (show True∧True from⟨trivial,trivial⟩)<|aN)<|nN (.tup []) ⟨i9,m1,lT⟩
    refine hK<|nN (.tup []) ⟨j2,m1,lT⟩
   rintro t4 k6
   replace k6:EU a0 t4=some r:=k6
   unfold EU at k6
   refine Gw [] (u [] []) (aN)<|Tn ⟨t4,k6,wT⟩
  refine hK<|Tn ⟨j2,m1,wT⟩
 rintro n6 p3
 replace p3:D8 a0 n6=some r:=p3
 unfold D8 at p3
 refine hS<|hO<|Gp 3 (nA 3) (u [] [(53,vP [9] (0)),(54,vP [1] (8)),(55,vI a0.Keys)]) (aN)<|Nj (X:=(List (List UInt8))) (fun v=>(uo [53,54,55] [] [.e (Bl [1000,9] 9 1 eS v),.k 1,.k 2])) (fun v=>Gh a0 v=some r) rfl rfl ?_ ?_
 ·refine Ei 56 [vP [9] (0),vI a0.Keys,vS Cq,.c (.fn 179)] [] Tryz.func176 Tryz.ntmps176 [] rfl rfl rfl rfl fun _ _ _ _=>?_
  obtain⟨p1,n12,p3⟩:=bS p3
  refine Gg [.a,(.c (vL (eI .i64) p1)),.a,.a] (u [1] [(11,vL (eI .i64) p1),(12,vI (p1.length:Int)),(13,vI 0)]) (aC (G4 n12)<|aN)<|hB ?_
  obtain⟨i13,m11,p3⟩:=bS p3
  refine Gi (fun(v:Int×(List (List UInt8)))=>(uo [] [(13,vI v.1)] [.e (Bl [1000,9] 9 1 eS v.2),.k 1,.k 2])) m11 (wT) ?_
  rintro⟨k0,j0⟩ z2 i0 n11
  replace i0:ET p1 k0 j0=some z2:=i0
  unfold ET at i0
  refine Gg [.a] (u [] [(14,vB (decide (k0<(p1.length:Int))))]) (aN)<|hS<|iC i0 (fun i0=>?_) (fun i0=>?_)
  ·refine hK<|Tn<|hS<|hB ?_
   obtain⟨o0,t9,i0⟩:=bS i0
   refine Rg [.a,(.v (vI o0)),.a] (sg 25 [(0,vP [9] (0)),(2,vS Cq),(3,.c (.fn 179)),(9,vI o0),(11,vL (eI .i64) p1),(12,vI (p1.length:Int)),(13,vI k0)] [Bl [1000,9] 9 1 eS j0,bx [9] [.osl [1000,9]],bx [1] (A7 a0)] 89 [(1,vP [1] (0)),(3,vP [9] (0)),(4,.c (.bmv 174 [.ptr [9] (0)])),(53,vP [9] (0)),(54,vP [1] (8)),(55,vI a0.Keys)] [56]) (aC (Bm t9)<|aC (GN t9 (I1 .i64) 0 1 false (vI o0))<|aC (Eq.refl (vI o0))<|aN)<|hO<|Gp 4 (nA 4) (u [] [(17,vP [9] (0)),(18,vS Cq),(19,.c (.fn 179)),(20,vI o0)]) (aN)<|Nj (X:=(List UInt8)) (fun v=>(u [9,19,20] [(21,vS v)])) (fun v=>Be k0 j0 v=some z2) rfl rfl ?_ ?_
   ·refine Ei 21 [vI o0] [] Tryz.func179 Tryz.ntmps179 [.tmp 2] rfl rfl rfl rfl fun _ _ _ _=>Gg [.a] (u [] []) (aN)<|hS ?_
    obtain⟨b62,d12,i0⟩:=bS i0
    refine Gg [.a,.a,.a,.a,.a,(.v (vB b62))] (u [] [(9,vB b62)]) (aG ((decide (o0<0))==false)<|aF (decide (o0<0))<|aB d12<|aN)<|iC i0 (fun i0=>?_) (fun i0=>?_)
    ·refine Gg [.a] (u [0,9] [(2,vS ([]:List UInt8))]) (aN)<|hR<|Tr<|nR (vS ([]:List UInt8)) ⟨([]:List UInt8),i0,lT⟩
    refine hK<|Tn<|Gg [.a] (u [9] [(3,vS ([]:List UInt8))]) (aN)<|hS ?_
    obtain⟨u64,t12,i0⟩:=bS i0
    refine Gg [.a,.a] (u [0] [(11,vI (Ab ((1:Int)*2 ^ (min (o0).toNat (IntKind.i64).bits))))]) (aC (GU t12)<|aN)<|hB<|Sj (X:=(List UInt8)) (fun v=>(sg 52 [(3,vS v)] [Bl [1000,9] 9 1 eS j0,bx [9] [.osl [1000,9]],bx [1] (A7 a0)] 114 [(0,vP [9] (0)),(2,vS Cq),(3,.c (.fn 179)),(9,vI o0),(11,vL (eI .i64) p1),(12,vI (p1.length:Int)),(13,vI k0),(17,vP [9] (0)),(18,vS Cq),(19,.c (.fn 179)),(20,vI o0),(26,vP [1] (0)),(28,vP [9] (0)),(29,.c (.bmv 174 [.ptr [9] (0)])),(78,vP [9] (0)),(79,vP [1] (8)),(80,vI a0.Keys)] [21,56])) (fun v=>D6 k0 j0 v=some z2) ?_ ?_
    ·refine hB<|hS<|hB<|hS<|hB<|hS<|hB<|hS<|hB<|hS<|hB<|hS<|hB<|hS<|hB<|hS<|hB<|Sj (X:=(List UInt8)) (fun v=>(sg 52 [(3,vS v)] [Bl [1000,9] 9 1 eS j0,bx [9] [.osl [1000,9]],bx [1] (A7 a0)] 114 [(0,vP [9] (0)),(2,vS Cq),(3,.c (.fn 179)),(9,vI o0),(11,vL (eI .i64) p1),(12,vI (p1.length:Int)),(13,vI k0),(17,vP [9] (0)),(18,vS Cq),(19,.c (.fn 179)),(20,vI o0),(26,vP [1] (0)),(28,vP [9] (0)),(29,.c (.bmv 174 [.ptr [9] (0)])),(78,vP [9] (0)),(79,vP [1] (8)),(80,vI a0.Keys)] [21,56])) (fun v=>D7 k0 j0 v=some z2) ?_ ?_
     ·refine hB<|hS<|hB<|hS<|hB<|hS<|hB<|hS<|hB<|hS<|hB<|hS<|hB<|hS<|hS<|Rg [.a,.a] (sg 52 [(3,vS ([]:List UInt8)),(11,vI (Ab ((1:Int)*2 ^ (min (o0).toNat (IntKind.i64).bits)))),(12,vB ((Ab ((1:Int)*2 ^ (min (o0).toNat (IntKind.i64).bits)))==(1:Int)))] [Bl [1000,9] 9 1 eS j0,bx [9] [.osl [1000,9]],bx [1] (A7 a0)] 114 [(0,vP [9] (0)),(2,vS Cq),(3,.c (.fn 179)),(9,vI o0),(11,vL (eI .i64) p1),(12,vI (p1.length:Int)),(13,vI k0),(17,vP [9] (0)),(18,vS Cq),(19,.c (.fn 179)),(20,vI o0),(26,vP [1] (0)),(28,vP [9] (0)),(29,.c (.bmv 174 [.ptr [9] (0)])),(78,vP [9] (0)),(79,vP [1] (8)),(80,vI a0.Keys)] [21,56]) (aN)<|iC i0 (fun i0=>?_) (fun i0=>?_)
      ·refine hE<|Te<|Te<|qX<|Tn<|hS<|Gg [.a] (u [3,11,12] [(2,vS Il)]) (aN)<|hR<|Tr<|qR<|Tr<|qR<|Tr<|qR<|Tr<|qR<|Tr<|qR<|Tr<|qR<|Tr<|qR<|Tr<|qR<|Tr<|qR<|Tr<|qR<|Tr<|qR<|Tr<|qR<|Tr<|qR<|Tr<|qR<|Tr<|qR<|Tr<|qR<|Tr<|nR (vS Il) ⟨Il,i0,lT⟩
      refine hK<|Tn<|hS<|Gg [.a,.a] (u [12] [(14,vB ((Ab ((1:Int)*2 ^ (min (o0).toNat (IntKind.i64).bits)))==(2:Int)))]) (aN)<|iC i0 (fun i0=>?_) (fun i0=>?_)
      ·refine hE<|Te<|Te<|qY<|Te<|qX<|Tn<|hS<|Gg [.a] (u [3,11,14] [(2,vS Ja)]) (aN)<|hR<|Tr<|qR<|Tr<|qR<|Tr<|qR<|Tr<|qR<|Tr<|qR<|Tr<|qR<|Tr<|qR<|Tr<|qR<|Tr<|qR<|Tr<|qR<|Tr<|qR<|Tr<|qR<|Tr<|qR<|Tr<|qR<|Tr<|qR<|Tr<|nR (vS Ja) ⟨Ja,i0,lT⟩
      refine hK<|Tn<|hS<|Gg [.a,.a] (u [14] [(16,vB ((Ab ((1:Int)*2 ^ (min (o0).toNat (IntKind.i64).bits)))==(4:Int)))]) (aN)<|iC i0 (fun i0=>?_) (fun i0=>?_)
      ·refine hE<|Te<|Te<|qY<|Te<|qY<|Te<|qX<|Tn<|hS<|Gg [.a] (u [3,11,16] [(2,vS Jb)]) (aN)<|hR<|Tr<|qR<|Tr<|qR<|Tr<|qR<|Tr<|qR<|Tr<|qR<|Tr<|qR<|Tr<|qR<|Tr<|qR<|Tr<|qR<|Tr<|qR<|Tr<|qR<|Tr<|qR<|Tr<|qR<|Tr<|qR<|Tr<|nR (vS Jb) ⟨Jb,i0,lT⟩
      refine hK<|Tn<|hS<|Gg [.a,.a] (u [16] [(18,vB ((Ab ((1:Int)*2 ^ (min (o0).toNat (IntKind.i64).bits)))==(8:Int)))]) (aN)<|iC i0 (fun i0=>?_) (fun i0=>?_)
      ·refine hE<|Te<|Te<|qY<|Te<|qY<|Te<|qY<|Te<|qX<|Tn<|hS<|Gg [.a] (u [3,11,18] [(2,vS FT)]) (aN)<|hR<|Tr<|qR<|Tr<|qR<|Tr<|qR<|Tr<|qR<|Tr<|qR<|Tr<|qR<|Tr<|qR<|Tr<|qR<|Tr<|qR<|Tr<|qR<|Tr<|qR<|Tr<|qR<|Tr<|qR<|Tr<|nR (vS FT) ⟨FT,i0,lT⟩
      refine hK<|Tn<|hS<|Gg [.a,.a] (u [18] [(20,vB ((Ab ((1:Int)*2 ^ (min (o0).toNat (IntKind.i64).bits)))==(16:Int)))]) (aN)<|iC i0 (fun i0=>?_) (fun i0=>?_)
      ·refine hE<|Te<|Te<|qY<|Te<|qY<|Te<|qY<|Te<|qY<|Te<|qX<|Tn<|hS<|Gg [.a] (u [3,11,20] [(2,vS GZ)]) (aN)<|hR<|Tr<|qR<|Tr<|qR<|Tr<|qR<|Tr<|qR<|Tr<|qR<|Tr<|qR<|Tr<|qR<|Tr<|qR<|Tr<|qR<|Tr<|qR<|Tr<|qR<|Tr<|qR<|Tr<|nR (vS GZ) ⟨GZ,i0,lT⟩
      refine hK<|Tn<|hS<|Gg [.a,.a] (u [20] [(22,vB ((Ab ((1:Int)*2 ^ (min (o0).toNat (IntKind.i64).bits)))==(32:Int)))]) (aN)<|iC i0 (fun i0=>?_) (fun i0=>?_)
      ·refine hE<|Te<|Te<|qY<|Te<|qY<|Te<|qY<|Te<|qY<|Te<|qY<|Te<|qX<|Tn<|Ge [.a] (u [] [(3,vS IC)]) (aN)<|qN<|Tn ⟨IC,i0,wT⟩
      refine hK<|Tn<|hS<|Gg [.a,.a] (u [22] [(24,vB ((Ab ((1:Int)*2 ^ (min (o0).toNat (IntKind.i64).bits)))==(64:Int)))]) (aN)<|iC i0 (fun i0=>?_) (fun i0=>?_)
      ·refine hE<|Te<|Te<|qY<|Te<|qY<|Te<|qY<|Te<|qY<|Te<|qY<|Te<|qY<|Te<|qX<|Tn ⟨([]:List UInt8),i0,wT⟩
      refine hK<|Tn<|hS<|Gg [.a,.a] (u [24] [(26,vB ((Ab ((1:Int)*2 ^ (min (o0).toNat (IntKind.i64).bits)))==(128:Int)))]) (aN)<|iC i0 (fun i0=>?_) (fun i0=>?_)
      ·refine hE<|Te<|Te<|qY<|Te<|qY<|Te<|qY<|Te<|qY<|Te<|qY<|Te<|qY<|Te<|qY<|Te<|qX<|Tn<|hS<|Rg [.a] (sg 52 [(2,vS Im)] [Bl [1000,9] 9 1 eS j0,bx [9] [.osl [1000,9]],bx [1] (A7 a0)] 114 [(0,vP [9] (0)),(2,vS Cq),(3,.c (.fn 179)),(9,vI o0),(11,vL (eI .i64) p1),(12,vI (p1.length:Int)),(13,vI k0),(17,vP [9] (0)),(18,vS Cq),(19,.c (.fn 179)),(20,vI o0),(26,vP [1] (0)),(28,vP [9] (0)),(29,.c (.bmv 174 [.ptr [9] (0)])),(78,vP [9] (0)),(79,vP [1] (8)),(80,vI a0.Keys)] [21,56]) (aN)<|hR<|Tr<|qR<|Tr<|qR<|Tr<|qR<|Tr<|qR<|Tr<|qR<|Tr<|qR<|Tr<|qR<|Tr<|qR<|Tr<|qR<|Tr<|nR (vS Im) ⟨Im,i0,lT⟩
      refine hK<|Tn<|hS<|Rg [.a,.a] (sg 52 [(3,vS ([]:List UInt8)),(11,vI (Ab ((1:Int)*2 ^ (min (o0).toNat (IntKind.i64).bits)))),(28,vB ((Ab ((1:Int)*2 ^ (min (o0).toNat (IntKind.i64).bits)))==(256:Int)))] [Bl [1000,9] 9 1 eS j0,bx [9] [.osl [1000,9]],bx [1] (A7 a0)] 114 [(0,vP [9] (0)),(2,vS Cq),(3,.c (.fn 179)),(9,vI o0),(11,vL (eI .i64) p1),(12,vI (p1.length:Int)),(13,vI k0),(17,vP [9] (0)),(18,vS Cq),(19,.c (.fn 179)),(20,vI o0),(26,vP [1] (0)),(28,vP [9] (0)),(29,.c (.bmv 174 [.ptr [9] (0)])),(78,vP [9] (0)),(79,vP [1] (8)),(80,vI a0.Keys)] [21,56]) (aN)<|iC i0 (fun i0=>?_) (fun i0=>?_)
      ·refine hE<|Te<|Te<|qY<|Te<|qY<|Te<|qY<|Te<|qY<|Te<|qY<|Te<|qY<|Te<|qY<|Te<|qY<|Te<|qX<|Tn<|hS<|Gg [.a] (u [3,11,28] [(2,vS FV)]) (aN)<|hR<|Tr<|qR<|Tr<|qR<|Tr<|qR<|Tr<|qR<|Tr<|qR<|Tr<|qR<|Tr<|qR<|Tr<|qR<|Tr<|nR (vS FV) ⟨FV,i0,lT⟩
      refine hK<|Tn<|hS<|Gg [.a,.a] (u [28] [(30,vB ((Ab ((1:Int)*2 ^ (min (o0).toNat (IntKind.i64).bits)))==(512:Int)))]) (aN)<|iC i0 (fun i0=>?_) (fun i0=>?_)
      ·refine hE<|Te<|Te<|qY<|Te<|qY<|Te<|qY<|Te<|qY<|Te<|qY<|Te<|qY<|Te<|qY<|Te<|qY<|Te<|qY<|Te<|qX<|Tn<|hS<|Gg [.a] (u [3,11,30] [(2,vS In)]) (aN)<|hR<|Tr<|qR<|Tr<|qR<|Tr<|qR<|Tr<|qR<|Tr<|qR<|Tr<|qR<|Tr<|qR<|Tr<|nR (vS In) ⟨In,i0,lT⟩
      refine hK<|Tn<|hS<|Gg [.a,.a] (u [30] [(32,vB ((Ab ((1:Int)*2 ^ (min (o0).toNat (IntKind.i64).bits)))==(1024:Int)))]) (aN)<|iC i0 (fun i0=>?_) (fun i0=>?_)
      ·refine hE<|Te<|Te<|qY<|Te<|qY<|Te<|qY<|Te<|qY<|Te<|qY<|Te<|qY<|Te<|qY<|Te<|qY<|Te<|qY<|Te<|qY<|Te<|qX<|Tn<|hS<|Gg [.a] (u [3,11,32] [(2,vS FW)]) (aN)<|hR<|Tr<|qR<|Tr<|qR<|Tr<|qR<|Tr<|qR<|Tr<|qR<|Tr<|qR<|Tr<|nR (vS FW) ⟨FW,i0,lT⟩
      refine hK<|Tn<|hS<|Gg [.a,.a] (u [32] [(34,vB ((Ab ((1:Int)*2 ^ (min (o0).toNat (IntKind.i64).bits)))==(2048:Int)))]) (aN)<|iC i0 (fun i0=>?_) (fun i0=>?_)
      ·refine hE<|Te<|Te<|qY<|Te<|qY<|Te<|qY<|Te<|qY<|Te<|qY<|Te<|qY<|Te<|qY<|Te<|qY<|Te<|qY<|Te<|qY<|Te<|qY<|Te<|qX<|Tn<|hS<|Gg [.a] (u [3,11,34] [(2,vS Io)]) (aN)<|hR<|Tr<|qR<|Tr<|qR<|Tr<|qR<|Tr<|qR<|Tr<|qR<|Tr<|nR (vS Io) ⟨Io,i0,lT⟩
      refine hK<|Tn<|hS<|Gg [.a,.a] (u [34] [(36,vB ((Ab ((1:Int)*2 ^ (min (o0).toNat (IntKind.i64).bits)))==(4096:Int)))]) (aN)<|iC i0 (fun i0=>?_) (fun i0=>?_)
      ·refine hE<|Te<|Te<|qY<|Te<|qY<|Te<|qY<|Te<|qY<|Te<|qY<|Te<|qY<|Te<|qY<|Te<|qY<|Te<|qY<|Te<|qY<|Te<|qY<|Te<|qY<|Te<|qX<|Tn<|hS<|Gg [.a] (u [3,11,36] [(2,vS Ip)]) (aN)<|hR<|Tr<|qR<|Tr<|qR<|Tr<|qR<|Tr<|qR<|Tr<|nR (vS Ip) ⟨Ip,i0,lT⟩
      refine hK<|Tn<|hS<|Gg [.a,.a] (u [36] [(38,vB ((Ab ((1:Int)*2 ^ (min (o0).toNat (IntKind.i64).bits)))==(8192:Int)))]) (aN)<|iC i0 (fun i0=>?_) (fun i0=>?_)
      ·refine hE<|Te<|Te<|qY<|Te<|qY<|Te<|qY<|Te<|qY<|Te<|qY<|Te<|qY<|Te<|qY<|Te<|qY<|Te<|qY<|Te<|qY<|Te<|qY<|Te<|qY<|Te<|qY<|Te<|qX<|Tn<|hS<|Gg [.a] (u [3,11,38] [(2,vS G0)]) (aN)<|hR<|Tr<|qR<|Tr<|qR<|Tr<|qR<|Tr<|nR (vS G0) ⟨G0,i0,lT⟩
      refine hK<|Tn<|hS<|Gg [.a,.a] (u [38] [(40,vB ((Ab ((1:Int)*2 ^ (min (o0).toNat (IntKind.i64).bits)))==(16384:Int)))]) (aN)<|iC i0 (fun i0=>?_) (fun i0=>?_)
      ·refine hE<|Te<|Te<|qY<|Te<|qY<|Te<|qY<|Te<|qY<|Te<|qY<|Te<|qY<|Te<|qY<|Te<|qY<|Te<|qY<|Te<|qY<|Te<|qY<|Te<|qY<|Te<|qY<|Te<|qY<|Te<|qX<|Tn<|Ge [.a] (u [] [(3,vS NB)]) (aN)<|qN<|Tn ⟨NB,i0,wT⟩
      refine hK<|Tn<|Gg [.a,.a] (u [11,40] [(42,vB ((Ab ((1:Int)*2 ^ (min (o0).toNat (IntKind.i64).bits)))==(65536:Int)))]) (aN)<|iC i0 (fun i0=>?_) (fun i0=>?_)
      ·refine hE<|Te<|qY<|Te<|qY<|Te<|qY<|Te<|qY<|Te<|qY<|Te<|qY<|Te<|qY<|Te<|qY<|Te<|qY<|Te<|qY<|Te<|qY<|Te<|qY<|Te<|qY<|Te<|qY<|Te<|qY<|Te<|qX<|Tn ⟨([]:List UInt8),i0,wT⟩
      refine hK<|Tn<|hE<|qY<|Te<|qY<|Te<|qY<|Te<|qY<|Te<|qY<|Te<|qY<|Te<|qY<|Te<|qY<|Te<|qY<|Te<|qY<|Te<|qY<|Te<|qY<|Te<|qY<|Te<|qY<|Te<|qY<|Te<|qY<|Te<|qX<|Tn<|Rg [.a] (sg 52 [(2,vS FX)] [Bl [1000,9] 9 1 eS j0,bx [9] [.osl [1000,9]],bx [1] (A7 a0)] 114 [(0,vP [9] (0)),(2,vS Cq),(3,.c (.fn 179)),(9,vI o0),(11,vL (eI .i64) p1),(12,vI (p1.length:Int)),(13,vI k0),(17,vP [9] (0)),(18,vS Cq),(19,.c (.fn 179)),(20,vI o0),(26,vP [1] (0)),(28,vP [9] (0)),(29,.c (.bmv 174 [.ptr [9] (0)])),(78,vP [9] (0)),(79,vP [1] (8)),(80,vI a0.Keys)] [21,56]) (aN)<|hR<|nR (vS FX) ⟨FX,i0,lT⟩
     rintro o9 d5
     replace d5:D7 k0 j0 o9=some z2:=d5
     unfold D7 at d5
     refine hS ?_
     obtain⟨r71,p12,k9,d11,d5⟩:=JX d5
     refine Gg [.a,.a,(.c (vS r71)),(.v (vS k9)),.a] (u [3] [(2,vS k9)]) (aC (Hm p12)<|aC (DB d11)<|aC (congrArg (fun z=>V.c (.str z)) (DC d11).symm)<|aN)<|hR<|Tr<|qR<|Tr<|qR<|Tr<|qR<|Tr<|qR<|Tr<|qR<|Tr<|qR<|Tr<|qR<|Tr<|qR<|Tr<|qR<|Tr<|qR<|Tr<|nR (vS k9) ⟨k9,d5,lT⟩
    rintro n9 z4
    replace z4:D6 k0 j0 n9=some z2:=z4
    unfold D6 at z4
    refine hS ?_
    obtain⟨r67,o12,j9,z10,z4⟩:=JX z4
    refine Gg [.a,.a,(.c (vS r67)),(.v (vS j9)),.a] (u [3] [(2,vS j9)]) (aC (Hm o12)<|aC (DB z10)<|aC (congrArg (fun z=>V.c (.str z)) (DC z10).symm)<|aN)<|hR<|Tr<|qR<|Tr<|nR (vS j9) ⟨j9,z4,lT⟩
   rintro m9 i2
   replace i2:Be k0 j0 m9=some z2:=i2
   unfold Be at i2
   obtain⟨d6,y10,i2⟩:=bS i2
   refine Gp 1 [(.v (vS d6))] (u [] [(22,vS d6)]) (aC (DB y10)<|aC (congrArg (fun z=>V.c (.str z)) (DC y10).symm)<|aN)<|Nj (X:=(List (List UInt8))) (fun v=>(uo [17,18,21,22] [] [.e (Bl [1000,9] 9 1 eS v),.k 1,.k 2])) (fun v=>Gk k0 v=some z2) rfl rfl ?_ ?_
   ·refine Ei 23 [vP [9] (0),vS d6] [] Tryz.func174 Tryz.ntmps174 [] rfl rfl rfl rfl fun _ _ _ _=>Gg [.a,.a] (u [] [(5,vB (d6 != ([]:List UInt8)))]) (aN)<|iC i2 (fun i2=>?_) (fun i2=>?_)
    ·obtain⟨d9,n10,i2⟩:=bS i2
     refine Ge [.a,.a,.a,.a,.a,.a,.a,(.e d9.length (d9.flatMap (eS))),.a,.a,.a] (uo [] [(6,vP [9] (0)),(7,vP [9] (0)),(8,vP [9] (0)),(9,vP [9] (0)),(11,vS d6),(12,vO [12,23,56]),(13,vO [1000,9]),(14,vP [9] (0)),(15,vP [9] (0))] [.e (Bl [1000,9] 9 1 eS d9),.e (Bl [12,23,56] 9 1 eS ([d6]:List (List UInt8))),.k 1,.k 2]) (aC (show True∧True from⟨trivial,trivial⟩)<|aC (M4 n10 eS)<|aC (Du n10)<|aC (show True∧True from⟨trivial,trivial⟩)<|aN)<|nN (.tup []) ⟨d9,i2,lT⟩
    refine hK<|nN (.tup []) ⟨j0,i2,lT⟩
   rintro q4 j6
   replace j6:Gk k0 q4=some z2:=j6
   unfold Gk at j6
   refine Gw [] (u [] []) (aN)<|qN<|Tn<|Ge [.a,.a] (u [] [(13,vI (Ab (k0+1))),(24,vI (Ab (k0+1)))]) (aN)<|Tn ⟨((Ab (k0+1)),q4),(sI j6).symm,wT⟩
  refine hE<|Te ?_
  obtain rfl:=n11 _ (sI i0).symm
  refine Te<|qX<|nN (.tup []) ⟨j0,p3,lT⟩
 rintro p2 x1
 replace x1:Gh a0 p2=some r:=x1
 unfold Gh at x1
 refine Gw [] (u [] []) (aN)<|Tn<|hS<|hO ?_
 obtain⟨y3,q9,x1⟩:=bS x1
 refine Gp 5 [.a,.a,.a,.a,(.v (vS y3))] (u [] [(57,.c (.bmv 174 [.ptr [9] (0)])),(58,vA (Vk (eS)) (⟨([]:List UInt8),FY,Ej⟩:A3 (List UInt8))),(59,vP [1] (9)),(60,vI a0.Tap),(61,vS y3)]) (aC (And.intro (show True∧(True∧(True∧True))from⟨trivial,⟨trivial,⟨trivial,trivial⟩⟩⟩) aw)<|aC (show (0≤a0.Tap∧a0.Tap<((3:Nat):Int))∧(a0.Tap).toNat *1+1≤(Vk (eS) (⟨([]:List UInt8),FY,Ej⟩:A3 (List UInt8))).length ∧Me false ((a0.Tap).toNat *1) 1 (Vk (eS) (⟨([]:List UInt8),FY,Ej⟩:A3 (List UInt8)))=vS y3 from⟨Bm q9,I5 (e:=eS) (N:=1) (l:=(⟨([]:List UInt8),FY,Ej⟩:A3 (List UInt8)).l) (base:=0) (pre:=[]) (post:=[]) (by kernel_rfl) rfl q9 Vi (o:=0) (by simp) (by decide) (by decide) (by kernel_rfl)⟩)<|aC (Eq.refl (vS y3))<|aN)<|Nj (X:=(List (List UInt8))) (fun v=>(uo [57,58,59,60,61] [] [.e (Bl [1000,9] 9 1 eS v),.k 1,.k 2])) (fun v=>ES a0 v=some r) rfl rfl ?_ ?_
 ·refine js 62 [vS y3] [.ptr [9] (0)] Tryz.func174 Tryz.ntmps174 [] rfl rfl rfl rfl fun _ _ _ _=>Rg [.a,.a] (sg 16 [(0,vP [9] (0)),(1,vS y3),(5,vB (y3 != ([]:List UInt8)))] [Bl [1000,9] 9 1 eS p2,bx [9] [.osl [1000,9]],bx [1] (A7 a0)] 89 [(1,vP [1] (0)),(3,vP [9] (0)),(4,.c (.bmv 174 [.ptr [9] (0)])),(57,.c (.bmv 174 [.ptr [9] (0)])),(58,vA (Vk (eS)) (⟨([]:List UInt8),FY,Ej⟩:A3 (List UInt8))),(59,vP [1] (9)),(60,vI a0.Tap),(61,vS y3)] [62]) (aN)<|iC x1 (fun x1=>?_) (fun x1=>?_)
  ·obtain⟨z8,m10,x1⟩:=bS x1
   refine Ge [.a,.a,.a,.a,.a,.a,.a,(.e z8.length (z8.flatMap (eS))),.a,.a,.a] (uo [] [(6,vP [9] (0)),(7,vP [9] (0)),(8,vP [9] (0)),(9,vP [9] (0)),(11,vS y3),(12,vO [12,62]),(13,vO [1000,9]),(14,vP [9] (0)),(15,vP [9] (0))] [.e (Bl [1000,9] 9 1 eS z8),.e (Bl [12,62] 9 1 eS ([y3]:List (List UInt8))),.k 1,.k 2]) (aC (show True∧True from⟨trivial,trivial⟩)<|aC (M4 m10 eS)<|aC (Du m10)<|aC (show True∧True from⟨trivial,trivial⟩)<|aN)<|nN (.tup []) ⟨z8,x1,lT⟩
  refine hK<|nN (.tup []) ⟨p2,x1,lT⟩
 rintro q2 y1
 replace y1:ES a0 q2=some r:=y1
 unfold ES at y1
 refine Gw [] (u [] []) (aN)<|Tn<|hS<|hO ?_
 obtain⟨y5,i12,y1⟩:=bS y1
 refine Rp 4 [.a,.a,.a,(.c (vS y5))] (sl 89 [(1,vP [1] (0)),(3,vP [9] (0)),(4,.c (.bmv 174 [.ptr [9] (0)])),(63,.c (.bmv 174 [.ptr [9] (0)])),(64,vP [1] (10)),(65,vA Hh a0.Power),(66,vS y5)] [Bl [1000,9] 9 1 eS q2,bx [9] [.osl [1000,9]],bx [1] (A7 a0)]) (aC (HS i12)<|aN)<|Nj (X:=(List (List UInt8))) (fun v=>(uo [63,64,65,66] [] [.e (Bl [1000,9] 9 1 eS v),.k 1,.k 2])) (fun v=>ER a0 v=some r) rfl rfl ?_ ?_
 ·refine js 67 [vS y5] [.ptr [9] (0)] Tryz.func174 Tryz.ntmps174 [] rfl rfl rfl rfl fun _ _ _ _=>Gg [.a,.a] (u [] [(5,vB (y5 != ([]:List UInt8)))]) (aN)<|iC y1 (fun y1=>?_) (fun y1=>?_)
  ·obtain⟨y8,k10,y1⟩:=bS y1
   refine Ge [.a,.a,.a,.a,.a,.a,.a,(.e y8.length (y8.flatMap (eS))),.a,.a,.a] (uo [] [(6,vP [9] (0)),(7,vP [9] (0)),(8,vP [9] (0)),(9,vP [9] (0)),(11,vS y5),(12,vO [12,67]),(13,vO [1000,9]),(14,vP [9] (0)),(15,vP [9] (0))] [.e (Bl [1000,9] 9 1 eS y8),.e (Bl [12,67] 9 1 eS ([y5]:List (List UInt8))),.k 1,.k 2]) (aC (show True∧True from⟨trivial,trivial⟩)<|aC (M4 k10 eS)<|aC (Du k10)<|aC (show True∧True from⟨trivial,trivial⟩)<|aN)<|nN (.tup []) ⟨y8,y1,lT⟩
  refine hK<|nN (.tup []) ⟨q2,y1,lT⟩
 rintro p4 z1
 replace z1:ER a0 p4=some r:=z1
 unfold ER at z1
 refine Gw [] (u [] []) (aN)<|Tn<|hS<|hO ?_
 obtain⟨z5,ou,z1⟩:=bS z1
 refine Gp 4 [.a,.a,.a,(.c (vS z5))] (u [] [(68,.c (.bmv 174 [.ptr [9] (0)])),(69,vP [1] (12)),(70,vA Hh a0.Tough),(71,vS z5)]) (aC (HS ou)<|aN)<|Nj (X:=(List (List UInt8))) (fun v=>(uo [68,69,70,71] [] [.e (Bl [1000,9] 9 1 eS v),.k 1,.k 2])) (fun v=>EQ a0 v=some r) rfl rfl ?_ ?_
 ·refine js 72 [vS z5] [.ptr [9] (0)] Tryz.func174 Tryz.ntmps174 [] rfl rfl rfl rfl fun _ _ _ _=>Gg [.a,.a] (u [] [(5,vB (z5 != ([]:List UInt8)))]) (aN)<|iC z1 (fun z1=>?_) (fun z1=>?_)
  ·obtain⟨x8,lV,z1⟩:=bS z1
   refine Ge [.a,.a,.a,.a,.a,.a,.a,(.e x8.length (x8.flatMap (eS))),.a,.a,.a] (uo [] [(6,vP [9] (0)),(7,vP [9] (0)),(8,vP [9] (0)),(9,vP [9] (0)),(11,vS z5),(12,vO [12,72]),(13,vO [1000,9]),(14,vP [9] (0)),(15,vP [9] (0))] [.e (Bl [1000,9] 9 1 eS x8),.e (Bl [12,72] 9 1 eS ([z5]:List (List UInt8))),.k 1,.k 2]) (aC (show True∧True from⟨trivial,trivial⟩)<|aC (M4 lV eS)<|aC (Du lV)<|aC (show True∧True from⟨trivial,trivial⟩)<|aN)<|nN (.tup []) ⟨x8,z1,lT⟩
  refine hK<|nN (.tup []) ⟨p4,z1,lT⟩
 rintro t2 d2
 replace d2:EQ a0 t2=some r:=d2
 unfold EQ at d2
 refine Gw [] (u [] []) (aN)<|Tn<|hS<|hO ?_
 obtain⟨m5,k12,d2⟩:=bS d2
 refine Gp 4 [.a,.a,.a,(.c (vS m5))] (u [] [(73,.c (.bmv 174 [.ptr [9] (0)])),(74,vP [1] (14)),(75,vA Hh a0.Value),(76,vS m5)]) (aC (HS k12)<|aN)<|Nj (X:=(List (List UInt8))) (fun v=>(uo [1,4,73,74,75,76] [] [.e (Bl [1000,9] 9 1 eS v),.k 1])) (fun v=>EP v=some r) rfl rfl ?_ ?_
 ·refine js 77 [vS m5] [.ptr [9] (0)] Tryz.func174 Tryz.ntmps174 [] rfl rfl rfl rfl fun _ _ _ _=>Rg [.a,.a] (sg 16 [(0,vP [9] (0)),(1,vS m5),(5,vB (m5 != ([]:List UInt8)))] [Bl [1000,9] 9 1 eS t2,bx [9] [.osl [1000,9]],bx [1] (A7 a0)] 89 [(1,vP [1] (0)),(3,vP [9] (0)),(4,.c (.bmv 174 [.ptr [9] (0)])),(73,.c (.bmv 174 [.ptr [9] (0)])),(74,vP [1] (14)),(75,vA Hh a0.Value),(76,vS m5)] [77]) (aN)<|iC d2 (fun d2=>?_) (fun d2=>?_)
  ·obtain⟨t8,i10,d2⟩:=bS d2
   refine Ge [.a,.a,.a,.a,.a,.a,.a,(.e t8.length (t8.flatMap (eS))),.a,.a,.a] (uo [] [(6,vP [9] (0)),(7,vP [9] (0)),(8,vP [9] (0)),(9,vP [9] (0)),(11,vS m5),(12,vO [12,77]),(13,vO [1000,9]),(14,vP [9] (0)),(15,vP [9] (0))] [.e (Bl [1000,9] 9 1 eS t8),.e (Bl [12,77] 9 1 eS ([m5]:List (List UInt8))),.k 1,.k 2]) (aC (show True∧True from⟨trivial,trivial⟩)<|aC (M4 i10 eS)<|aC (Du i10)<|aC (show True∧True from⟨trivial,trivial⟩)<|aN)<|nN (.tup []) ⟨t8,d2,lT⟩
  refine hK<|nN (.tup []) ⟨t2,d2,lT⟩
 rintro x2 m2
 replace m2:EP x2=some r:=m2
 unfold EP at m2
 refine Rw [] (sl 89 [(3,vP [9] (0))] [Bl [1000,9] 9 1 eS x2,bx [9] [.osl [1000,9]]]) (aN)<|Tn<|hS<|Gg (nA 6) (u [] [(83,vB ((x2.length:Int)==0))]) (aC (show True∧True from⟨trivial,trivial⟩)<|aN)<|iC m2 (fun m2=>?_) (fun m2=>?_)
 ·exact Rg [.a] (sl 89 [(2,vS N8)] []) (aN)<|hR<|Tr<|bQ _ (congrArg vS (sI m2))
 refine hK<|Tn ?_
 obtain⟨r37,m12,m2⟩:=bS m2
 exact Rg [.a,.a,.a,.a,(.c (vS r37)),.a] (sl 89 [(2,vS r37)] []) (aC (show True∧True from⟨trivial,trivial⟩)<|aC (Xj m12)<|aN)<|hR<|bQ _ (congrArg vS (sI m2))
end Go.PL
