/- Functions of the program, as partial functions in Lean, with proofs. -/
import Derived.Test.YtiddnfpjgojoaaaGreatDoorPlEdB
import Derived.Test.YtiddnfpjgojoaaaGreatDoorPlEdF1
import Derived.Test.YtiddnfpjgojoaaaGreatDoorPlEdF10
import Derived.Test.YtiddnfpjgojoaaaGreatDoorPlEdF11
import Derived.Test.YtiddnfpjgojoaaaGreatDoorPlEdF2
import Derived.Test.YtiddnfpjgojoaaaGreatDoorPlEdF4
import Derived.Test.YtiddnfpjgojoaaaGreatDoorPlEdF5
import Derived.Test.YtiddnfpjgojoaaaGreatDoorPlEdF6
import Derived.Test.YtiddnfpjgojoaaaGreatDoorPlEdF9
namespace Go.PL
open Go Go.RowKit Go.Proofs
set_option maxRecDepth 100000
set_option linter.all false
set_option maxHeartbeats 4000000
attribute [local irreducible] Aj BO Bz
def Rx (a0:BI):Option ((List UInt8)):=
 (ST a0).bind fun r1=>
 (if(!r1)=true then
  some ([]:List UInt8)
 else
  (if(a0.Kind==1)=true then
   some UD
  else
   (if(a0.Kind==2)=true then
    (Dy a0.N).bind fun r5=>
    (cat Px r5).bind fun s6=>
    some s6
   else
    (if(a0.Kind==3)=true then
     (Dy a0.N).bind fun r8=>
     (cat MC r8).bind fun s9=>
     some s9
    else
     (if(a0.Kind==4)=true then
      (cat Xu a0.Sub).bind fun s11=>
      some s11
     else
      (if(a0.Kind==5)=true then
       (cat SH a0.Sub).bind fun s13=>
       some s13
      else
       (if(a0.Kind==6)=true then
        (MR a0.N).bind fun r15=>
        (cat MD r15).bind fun s16=>
        some s16
       else
        (if(a0.Kind==7)=true then
         (MR a0.N).bind fun r18=>
         (cat KT r18).bind fun s19=>
         some s19
        else
         (if(a0.Kind==8)=true then
          (M0 a0.N).bind fun r21=>
          (cat Py r21).bind fun s22=>
          some s22
         else
          (if(a0.Kind==9)=true then
           (M0 a0.N).bind fun r24=>
           (cat E7 r24).bind fun s25=>
           some s25
          else
           (if(a0.Kind==10)=true then
            some ba
           else
            (if(a0.Kind==11)=true then
             (Rs a0.Filter).bind fun r28=>
             (cat Jt r28).bind fun s29=>
             (cat s29 cV).bind fun s30=>
             some s30
            else
             (if(a0.Kind==12)=true then
              (Ff a0.N).bind fun r32=>
              (cat cW r32).bind fun s33=>
              (cat s33 NX).bind fun s34=>
              (Ff a0.M).bind fun r35=>
              (cat s34 r35).bind fun s36=>
              some s36
             else
              (if(a0.Kind==13)=true then
               (Ff a0.N).bind fun r38=>
               (cat XD r38).bind fun s39=>
               (cat s39 NX).bind fun s40=>
               (Ff a0.M).bind fun r41=>
               (cat s40 r41).bind fun s42=>
               some s42
              else
               some OF))))))))))))))
def ma:CE TE Tryz.prog I0:=AK [Yc,LT,lI,lP,lX,PC] Ab Ad 9 94 Tryz.f94 (Tryz.f94.body.getD .skip) .n [.s 151] [.k (.str)] (fun x=>Rx x.1) Tryz.func94 rfl (by kernel_rfl)
def Od (a0:BB):Option (Bool):=
 (gd ((a0.Who != 0)==false) (Hw a0.Filter)).bind fun r1=>
 (some (if(a0.Who != 0)=true then true else !r1)).bind fun b2=>
 (if b2=true then
  some false
 else
  (if(a0.Do==5)=true then
   (some (if(a0.N==0)=true then a0.Counter==0 else false)).bind fun b5=>
   (some (if(a0.Zone==1)=true then true else a0.Zone==2)).bind fun b6=>
   (some (if b6=true then true else a0.Zone==4)).bind fun b7=>
   (some (if b5=true then b7 else false)).bind fun b8=>
   some b8
  else
   (if(a0.Do==6)=true then
    (some (if(a0.N==0)=true then a0.Counter==0 else false)).bind fun b10=>
    (some (if b10=true then a0.Zone==0 else false)).bind fun b11=>
    some b11
   else
    (if(a0.Do==7)=true then
     (some (if(a0.Zone==0)=true then decide (1≤a0.N)else false)).bind fun b13=>
     (some (if b13=true then decide (a0.N≤99)else false)).bind fun b14=>
     (some (if b14=true then decide (0≤a0.Counter)else false)).bind fun b15=>
     (some (if b15=true then decide (a0.Counter<3)else false)).bind fun b16=>
     some b16
    else
     some false))))
def iJ:CE TE Tryz.prog I0:=AK [UW] Ab Ad 9 120 Tryz.f120 (Tryz.f120.body.getD .skip) .n [.s 111] [.k (.bool)] (fun x=>Od x.1) Tryz.func120 rfl (by kernel_rfl)
def d5 (a0:List (DF)):Option (Bool):=
 some (decide ((a0.length:Int)≤4))
def Ry (a0:List (DF)) (i_t3_3:Int):Option ((Int)⊕(Unit⊕Bool)):=
 (if(decide (i_t3_3<(a0.length:Int)))=true then
  (idx a0 i_t3_3).bind fun e7=>
  (Rt e7).bind fun r8=>
  (if(!r8)=true then
   some (.inr (.inr false))
  else
   some (.inl (Ac (i_t3_3+1))))
 else
  some (.inr (.inl ())))
def Oe (a0:List (DF)):Option (Bool):=
 jn (fun(v:Unit)=>d5 a0) (fun jJ1=>
 (iter (fun(v:Int)=>Ry a0 v) FU (0:Int)).bind (Sum.elim (fun o0=>jJ1 ()) (fun o1=>some o1)))
def iK:CE TE Tryz.prog I0:=AK [lY] Ab Ad 9 83 Tryz.f83 (Tryz.f83.body.getD .skip) (.s .n (.j ⟨[0],[],[],[]⟩ (.s .n (.l ⟨[0],[(3, .c (.v (.k (.int .i64))))],[],[]⟩ [(1,⟨[0],[],[],[]⟩),(0,⟨[],[(2, .c (.v (.k (.bool))))],[],[]⟩)] .n)) .n)) [.k (.lst 191)] [.k (.bool)] (fun x=>Oe x.1) Tryz.func83 rfl (by kernel_rfl)
def Fk (l1000_8_4_1:List (Bw)):Option (Bool):=
 (idx l1000_8_4_1 (1:Int)).bind fun e3=>
 (some (l1000_8_4_1.set ((1:Int)).toNat ({e3 with Lost:=true}))).bind fun l4=>
 (K6 (⟨4,0,0,1,3,0,0,0,0,0,false,false,(⟨0,0,0⟩:A3 (Int))⟩:Be)).bind fun r5=>
 (gd ((r5==BC)==true) (K6 (⟨0,(-2:Int),0,0,0,0,0,0,0,0,false,false,(⟨0,0,0⟩:A3 (Int))⟩:Be))).bind fun r6=>
 (some (if(r5==BC)=true then r6==Ju else false)).bind fun b7=>
 (gd (b7==true) (Ie (17:Int))).bind fun r8=>
 (some (if b7=true then r8==MG else false)).bind fun b9=>
 (gd (b9==true) (Ie (18:Int))).bind fun r10=>
 (some (if b9=true then r10==([]:List UInt8)else false)).bind fun b11=>
 (gd (b11==true) (Ru ([]:List (A1)) (⟨l4,([]:List (AO)),([]:List (Int)),([]:List (Int)),([]:List (H6)),([]:List (C0)),([]:List (IX)),0,0,0,false,0,0,1,1,1,([]:List (Int)),0,(-1:Int)⟩:Ao) (⟨4,0,0,0,3,0,0,0,0,0,false,false,(⟨0,0,0⟩:A3 (Int))⟩:Be))).bind fun r12=>
 (some (if b11=true then r12 else false)).bind fun b13=>
 (gd (b13==true) (Ru ([]:List (A1)) (⟨l4,([]:List (AO)),([]:List (Int)),([]:List (Int)),([]:List (H6)),([]:List (C0)),([]:List (IX)),0,0,0,false,0,0,1,1,1,([]:List (Int)),0,(-1:Int)⟩:Ao) (⟨4,0,0,1,3,0,0,0,0,0,false,false,(⟨0,0,0⟩:A3 (Int))⟩:Be))).bind fun r14=>
 (some (if b13=true then !r14 else false)).bind fun b15=>
 (gd (b15==true) (Dx (⟨l4,([]:List (AO)),([]:List (Int)),([]:List (Int)),([]:List (H6)),([]:List (C0)),([]:List (IX)),0,0,0,false,0,0,1,1,1,([]:List (Int)),0,(-1:Int)⟩:Ao) ([]:List (Ah)) (⟨4,0,0,1,3,0,0,0,0,0,false,false,(⟨0,0,0⟩:A3 (Int))⟩:Be))).bind fun r16=>
 (some (if b15=true then r16==1 else false)).bind fun b17=>
 some b17
def Dq (l1000_8_4_18:List (Bw)):Option (Bool):=
 Fk l1000_8_4_18
def EA (l1000_8_4_18:List (Bw)):Option (Bool):=
 (some (if(decide ((0:Int)≤(0:Int)))=true then decide (0<(if 4<(if(2:Int)<(2:Int)then(2:Int)else(2:Int))then(4:Int)else(if(2:Int)<(2:Int)then(2:Int)else(2:Int))))else false)).bind fun b21=>
 (if b21=true then
  Dq l1000_8_4_18
 else
  Dq l1000_8_4_18)
def GU (vt9_25:Int) (l1000_8_4_26:List (Bw)):Option ((Int×(List (Bw)))⊕((List (Bw)))):=
 (if(decide (vt9_25<(if 4<(if(2:Int)<(2:Int)then(2:Int)else(2:Int))then(4:Int)else(if(2:Int)<(2:Int)then(2:Int)else(2:Int)))))=true then
  (app 152 l1000_8_4_26 ([(⟨20,0,0,(⟨0,0,0,0,0,0⟩:A6 (Int)),false,false,([]:List (Int)),([]:List (Int)),([]:List (Int))⟩:Bw)]:List (Bw))).bind fun l30=>
  some (.inl ((Ac (vt9_25+1)),l30))
 else
  some (.inr l1000_8_4_26))
def EV:Option (Bool):=
 (iter (fun(v:Int×(List (Bw)))=>GU v.1 v.2) FU ((0:Int),([]:List (Bw)))).bind (fun o0=>EA o0)
def Zi (r:Bool):Prop:=AQ Tryz.prog I0 5 [] (· =vB r)
theorem Yd {r:Bool} (h:EV=some r):Zi r:=by
 refine AQ.bo Ab Tryz.func5 rfl Tryz.ntmps5 [.tmp 0] fun _ _ _ _=>?_
 unfold EV at h
 refine Rg [.a] (sl 44 [] []) (aN)<|hS<|hO<|Rp 0 [] (sl 44 [] []) (aN)<|Run.inlJ (X:=(List (Bw))) (fun v=>(sl 44 [(4,.agg [.osl [1000,8,4],.nils,.nils,.nils,.nils,.nils,.nils,Aa 0,Aa 0,Aa 0,.bool false,Aa 0,Aa 0,Aa 1,Aa 1,.int .u64 1,.nils,Aa 0,Aa (-1:Int)])] [BA [1000,8,4] 48 14 Ay v])) (fun v=>Fk v=some r) rfl rfl ?_ ?_
 ·refine Ei 4 [vI 2,vI 0,.c (.int .u64 1)] [] Tryz.func11 Tryz.ntmps11 [.cell 6 31] rfl rfl rfl rfl fun _ _ _ _=>Gg [.a] (uo [] [(6,vP [6,4] (0))] [.e (bx [6,4] [.nils,.nils,.nils,.nils,.nils,.nils,.nils,Aa 0,Aa 0,Aa 0,.bool false,Aa 0,Aa 0,Aa 0,Aa 0,.int .u64 0,.nils,Aa 0,Aa 0])]) (aN)<|Gg (nA 4) (u [0] [(7,vI (if 4<(if(2:Int)<(2:Int)then(2:Int)else(2:Int))then(4:Int)else(if(2:Int)<(2:Int)then(2:Int)else(2:Int))))]) (aC (show (True∧(True∧True))∧True from⟨⟨trivial,⟨trivial,trivial⟩⟩,trivial⟩)<|aC (show (True∧(True∧True))∧True from⟨⟨trivial,⟨trivial,trivial⟩⟩,trivial⟩)<|aN)<|Gg (nA 4) (uo [2] [(8,vP [8,4] (0))] [.e (bx [8,4] [.nils,.nils,.nils,.nils,.nils,.nils,.nils,Aa 0,Aa 0,Aa 0,.bool false,Aa 0,Aa 0,Aa 1,Aa 1,.int .u64 1,.nils,Aa 0,Aa (-1:Int)]),.k 0]) (aC (And.intro (show True∧(True∧(True∧(True∧True)))from⟨trivial,⟨trivial,⟨trivial,⟨trivial,trivial⟩⟩⟩⟩) yn)<|aN)<|Ow [8,4] 0 [1000,8,4] 48 14 (sg 38 [(1,vI 0),(6,vP [6,4] (0)),(7,vI (if 4<(if(2:Int)<(2:Int)then(2:Int)else(2:Int))then(4:Int)else(if(2:Int)<(2:Int)then(2:Int)else(2:Int)))),(8,vP [8,4] (0))] [BA [1000,8,4] 48 14 Ay ([]:List (Bw)),bx [8,4] [.osl [1000,8,4],.nils,.nils,.nils,.nils,.nils,.nils,Aa 0,Aa 0,Aa 0,.bool false,Aa 0,Aa 0,Aa 1,Aa 1,.int .u64 1,.nils,Aa 0,Aa (-1:Int)],bx [6,4] [.nils,.nils,.nils,.nils,.nils,.nils,.nils,Aa 0,Aa 0,Aa 0,.bool false,Aa 0,Aa 0,Aa 0,Aa 0,.int .u64 0,.nils,Aa 0,Aa 0]] 44 [] [4])<|Gj (X:=(List (Bw))) (fun v=>(uo [] [] [.e (BA [1000,8,4] 48 14 Ay v),.k 1,.k 2])) (fun v=>EA v=some r) ?_ ?_
  ·refine Gg [.a] (u [] [(9,vI 0)]) (aN)<|hB ?_
   obtain⟨k3,i1,h⟩:=bS h
   refine Gi (fun(v:Int×(List (Bw)))=>(uo [] [(9,vI v.1)] [.e (BA [1000,8,4] 48 14 Ay v.2),.k 1,.k 2])) i1 (wT) ?_
   rintro⟨n0,m0⟩ n2 k0 j1
   replace k0:GU n0 m0=some n2:=k0
   unfold GU at k0
   refine hS<|Rg (nA 3) (sg 38 [(1,vI 0),(6,vP [6,4] (0)),(7,vI (if 4<(if(2:Int)<(2:Int)then(2:Int)else(2:Int))then(4:Int)else(if(2:Int)<(2:Int)then(2:Int)else(2:Int)))),(8,vP [8,4] (0)),(9,vI n0),(17,vB (decide (n0<(if 4<(if(2:Int)<(2:Int)then(2:Int)else(2:Int))then(4:Int)else(if(2:Int)<(2:Int)then(2:Int)else(2:Int))))))] [BA [1000,8,4] 48 14 Ay m0,bx [8,4] [.osl [1000,8,4],.nils,.nils,.nils,.nils,.nils,.nils,Aa 0,Aa 0,Aa 0,.bool false,Aa 0,Aa 0,Aa 1,Aa 1,.int .u64 1,.nils,Aa 0,Aa (-1:Int)],bx [6,4] [.nils,.nils,.nils,.nils,.nils,.nils,.nils,Aa 0,Aa 0,Aa 0,.bool false,Aa 0,Aa 0,Aa 0,Aa 0,.int .u64 0,.nils,Aa 0,Aa 0]] 44 [] [4]) (aN)<|iC k0 (fun k0=>?_) (fun k0=>?_)
   ·refine hK<|Tn<|hS<|hB ?_
    obtain⟨t0,d1,k0⟩:=bS k0
    refine Ge [.a,.a,.a,.a,(.e t0.length (t0.flatMap (Ay))),.a,.a] (uo [] [(20,vP [8,4] (0)),(22,.agg [Aa 20,Aa 0,Aa 0,Aa (((⟨0,0,0,0,0,0⟩:A6 (Int))).x0),Aa (((⟨0,0,0,0,0,0⟩:A6 (Int))).x1),Aa (((⟨0,0,0,0,0,0⟩:A6 (Int))).x2),Aa (((⟨0,0,0,0,0,0⟩:A6 (Int))).x3),Aa (((⟨0,0,0,0,0,0⟩:A6 (Int))).x4),Aa (((⟨0,0,0,0,0,0⟩:A6 (Int))).x5),.bool false,.bool false,.nils,.nils,.nils]),(23,vO [23,4]),(24,vO [1000,8,4]),(25,vP [8,4] (0))] [.e (BA [1000,8,4] 48 14 Ay t0),.e (BA [23,4] 48 14 Ay ([(⟨20,0,0,(⟨0,0,0,0,0,0⟩:A6 (Int)),false,false,([]:List (Int)),([]:List (Int)),([]:List (Int))⟩:Bw)]:List (Bw))),.k 1,.k 2]) (aC (And.intro (show True∧True from⟨trivial,trivial⟩) yo)<|aC (Z7 d1 Ay)<|aC (DL d1)<|aN)<|qN<|Tn<|Ge (nA 3) (u [] [(9,vI (Ac (n0+1))),(18,vI n0),(19,vI (Ac (n0+1)))]) (aN)<|Tn ⟨((Ac (n0+1)),t0),(sI k0).symm,wT⟩
   refine hE<|Te ?_
   obtain rfl:=j1 _ (sI k0).symm
   refine Te<|qX<|Tn ⟨m0,h,wT⟩
  rintro i0 p0
  replace p0:EA i0=some r:=p0
  unfold EA at p0
  refine Gj (X:=Unit) (fun v=>(u [1,7] [])) (fun v=>Dq i0=some r) ?_ ?_
  ·obtain⟨n1,d2,p0⟩:=bS p0
   refine Gg [.a,.a,.a,.a,.a,.a,(.v (vB n1))] (u [7] [(32,vB n1)]) (aH ((decide ((0:Int)≤(0:Int)))==true)<|aT (decide ((0:Int)≤(0:Int)))<|aB d2<|aN)<|iC p0 (fun p0=>?_) (fun p0=>?_)
   ·refine Rg (nA 3) (sg 38 [(1,vI 0),(6,vP [6,4] (0)),(8,vP [8,4] (0))] [BA [1000,8,4] 48 14 Ay i0,bx [8,4] [.osl [1000,8,4],.nils,.nils,.nils,.nils,.nils,.nils,Aa 0,Aa 0,Aa 0,.bool false,Aa 0,Aa 0,Aa 1,Aa 1,.int .u64 1,.nils,Aa 0,Aa (-1:Int)],bx [6,4] [.nils,.nils,.nils,.nils,.nils,.nils,.nils,Aa 0,Aa 0,Aa 0,.bool false,Aa 0,Aa 0,Aa 0,Aa 0,.int .u64 0,.nils,Aa 0,Aa 0]] 44 [] [4]) (aN)<|Ge (nA 3) (u [] [(35,vI 0),(36,vP [8,4] (11))]) (aN)<|Tn ⟨(),p0,wT⟩
   refine hK<|Tn ⟨(),p0,wT⟩
  rintro _ q0
  replace q0:Dq i0=some r:=q0
  unfold Dq at q0
  refine Rg [.a,.a] (sg 38 [(6,vP [6,4] (0))] [BA [1000,8,4] 48 14 Ay i0,bx [6,4] [.osl [1000,8,4],.nils,.nils,.nils,.nils,.nils,.nils,Aa 0,Aa 0,Aa 0,.bool false,Aa 0,Aa 0,Aa 1,Aa 1,.int .u64 1,.nils,Aa 0,Aa (-1:Int)]] 44 [] [4]) (aN)<|hR<|nR (.agg [.osl [1000,8,4],.nils,.nils,.nils,.nils,.nils,.nils,Aa 0,Aa 0,Aa 0,.bool false,Aa 0,Aa 0,Aa 1,Aa 1,.int .u64 1,.nils,Aa 0,Aa (-1:Int)]) ⟨i0,q0,lT⟩
 rintro j0 o0
 replace o0:Fk j0=some r:=o0
 unfold Fk at o0
 refine Gw [.a,.a] (uo [] [(1,vP [1] (0))] [.e (bx [1] [.osl [1000,8,4],.nils,.nils,.nils,.nils,.nils,.nils,Aa 0,Aa 0,Aa 0,.bool false,Aa 0,Aa 0,Aa 1,Aa 1,.int .u64 1,.nils,Aa 0,Aa (-1:Int)]),.k 0]) (aN)<|Tn ?_
 obtain⟨e3,o1,l4,p1,o0⟩:=YG o0
 refine Gg [.a,.a,.a,.a,(.e l4.length (l4.flatMap (Ay)))] (uo [4] [] [.k 0,.e (BA [1000,8,4] 48 14 Ay l4)]) (aC (BS o1)<|aC (show ((1:Int)).toNat *14+10+1≤(j0.flatMap (Ay)).length ∧(j0.flatMap (Ay)).take (((1:Int)).toNat *14+10)++([.bool true]:List C)++(j0.flatMap (Ay)).drop (((1:Int)).toNat *14+10+([.bool true]:List C).length)=l4.flatMap (Ay)from(by rw [←sI p1];exact Mn (e:=Ay) (N:=14) (l:=j0) (i:=(1:Int)) (x':=({e3 with Lost:=true})) (o:=10) (base:=0) (cs:=([.bool true]:List C)) (pre:=[]) (post:=[]) (by simp) rfl (by simp) rfl o1 kP (by omega) (Nat.le_of_ble_eq_true (by kernel_rfl)) (by kernel_rfl)))<|aC (show ((some (48,14,l4.length):Option (TypeId×Nat×Nat))=some (48,14,j0.length))∧True from⟨by rw [←sI p1,List.length_set],trivial⟩)<|aN)<|Gg (nA 3) (uo [] [(2,vP [2] (0))] [.e (bx [2] [Aa 4,Aa 0,Aa 0,Aa 0,Aa 3,Aa 0,Aa 0,Aa 0,Aa 0,Aa 0,.bool false,.bool false,Aa (((⟨0,0,0⟩:A3 (Int))).x0),Aa (((⟨0,0,0⟩:A3 (Int))).x1),Aa (((⟨0,0,0⟩:A3 (Int))).x2)]),.k 0,.k 1]) (aC (And.intro (show True∧(True∧(True∧True))from⟨trivial,⟨trivial,⟨trivial,trivial⟩⟩⟩) nO)<|aN)<|Gg (nA 3) (uo [] [(3,vP [3] (0))] [.e (bx [3] [Aa 4,Aa 0,Aa 0,Aa 1,Aa 3,Aa 0,Aa 0,Aa 0,Aa 0,Aa 0,.bool false,.bool false,Aa (((⟨0,0,0⟩:A3 (Int))).x0),Aa (((⟨0,0,0⟩:A3 (Int))).x1),Aa (((⟨0,0,0⟩:A3 (Int))).x2)]),.k 0,.k 1,.k 2]) (aC (And.intro (show True∧(True∧(True∧True))from⟨trivial,⟨trivial,⟨trivial,trivial⟩⟩⟩) nO)<|aN) ?_
 obtain⟨r5,q2,r6,t2,b7,o2,r8,y2,o0⟩:=pT o0
 obtain⟨b9,p2,z2,i2,k1,q1,d3,j2,o0⟩:=pT o0
 obtain⟨y0,t1,i3,k2,z0,y1,j3,m2,o0⟩:=pT o0
 obtain⟨m1,z1,o0⟩:=bS o0
 exact Rg [.a,(.c (vS r5)),.a,.a,.a,(.c (vS r6)),.a,(.v (vB b7)),.a,(.c (vS r8)),.a,(.v (vB b9)),.a,(.c (vS z2)),.a,(.v (vB k1)),.a,.a,.a,(.c (vB d3)),(.v (vB y0)),.a,.a,.a,(.c (vB i3)),.a,(.v (vB z0)),.a,.a,.a,(.c (vI j3)),.a,(.v (vB m1)),.a] (sl 44 [(0,vB m1)] []) (aC (And.intro (show True∧(True∧(True∧True))from⟨trivial,⟨trivial,⟨trivial,trivial⟩⟩⟩) nO)<|aC (OM q2)<|aC (fun hg:((r5==BC)==true)=true=>aC (And.intro (show True∧True from⟨trivial,trivial⟩) nO)<|aN)<|aC (c1 t2 OM)<|aG ((r5==BC)==true)<|aT (r5==BC)<|aB o2<|aC (c0 y2 OH)<|aG (b7==true)<|aT b7<|aB p2<|aC (c0 i2 OH)<|aG (b9==true)<|aT b9<|aB q1<|aC (c2 j2 UX)<|aT k1<|aB t1<|aC (c2 k2 UX)<|aG (y0==true)<|aT y0<|aB y1<|aC (c2 m2 SO)<|aG (z0==true)<|aT z0<|aB z1<|aN)<|hR<|bQ _ (kB o0)def E_law32_alive:CE TE Tryz.prog I0:=⟨5,[],[.k (.bool)],fun x=>EV,fun x r h=>Cz (by kernel_rfl) (Yd (r:=r) h)⟩
def Na (l19_7:List (Int)):Option ((List (Int))):=
 some l19_7
def LX (k_t7_12:Int) (l19_17:List (Int)):Option ((Int×(List (Int)))⊕((List (Int)))):=
 some (.inl ((Ac (k_t7_12+1)),l19_17))
def GV (a0:AD) (a1:Int) (e6:AU) (k_t7_12:Int) (l19_13:List (Int)):Option ((Int×(List (Int)))⊕((List (Int)))):=
 (if(decide (k_t7_12<(a0.S.Objects.length:Int)))=true then
  jn (fun(v:(List (Int)))=>LX k_t7_12 v) (fun jJ18=>
  (idx a0.S.Objects k_t7_12).bind fun e19=>
  (if(e19.Zone != 0)=true then
   jJ18 l19_13
  else
   (gd (e6.Fixed==true) (Ob e6.Objects e19.Id)).bind fun r21=>
   (some (if e6.Fixed=true then r21 else false)).bind fun b22=>
   (gd ((b22==false)&&((!e6.Fixed)==true)) (idx a0.All k_t7_12)).bind fun e23=>
   (gd ((b22==false)&&((!e6.Fixed)==true)) (K7 a0 a1)).bind fun r24=>
   (gd ((b22==false)&&((!e6.Fixed)==true)) (FS e19 e23 r24 e6.Source e6.Filter)).bind fun r25=>
   (some (if(!e6.Fixed)=true then r25 else false)).bind fun b26=>
   (some (if b22=true then true else b26)).bind fun b27=>
   (if b27=true then
    (app 8 l19_13 ([e19.Id]:List (Int))).bind fun l29=>
    jJ18 l29
   else
    jJ18 l19_13)))
 else
  some (.inr l19_13))
def D3 (a0:AD) (a1:Int):Option ((List (Int))):=
 (idx a0.Begun a1).bind fun e1=>
 (if e1=true then
  (idx a0.Sets a1).bind fun e3=>
  some e3
 else
  (DY a0 a1).bind fun r4=>
  (if(!r4)=true then
   some ([]:List (Int))
  else
   (idx a0.L a1).bind fun e6=>
   jn (fun(v:(List (Int)))=>Na v) (fun jJ8=>
   (iter (fun(v:Int×(List (Int)))=>GV a0 a1 e6 v.1 v.2) FU ((0:Int),([]:List (Int)))).bind (fun o0=>jJ8 o0))))
def Zj:CE TE Tryz.prog I0:=AK [Q8,bA,bB,Rw] Ab Ad 9 70 Tryz.f70 (Tryz.f70.body.getD .skip) (.s .n (.s .n (.s .n (.s .n (.s .n (.j ⟨[],[(5, .c (.c (.osl [19])))],[],[([19], .row 3)]⟩ (.s .n (.l ⟨[1,2,6],[(5, .c (.c (.osl [19]))),(7, .c (.v (.k (.int .i64))))],[[2],[6]],[([19], .row 3)]⟩ [(1,⟨[],[(5, .c (.c (.osl [19])))],[],[([19], .row 3)]⟩)] (.s .n (.j ⟨[1,2,6,7],[(5, .c (.c (.osl [19])))],[[2],[6]],[([19], .row 3)]⟩ .n .n)))) .n)))))) [.s 55, .k (.int .i64)] [.k (.lst 3)] (fun x=>D3 x.1 x.2.1) Tryz.func70 rfl (by kernel_rfl)
def Zk (a0:AD) (a1:Int) (r:(List (Int))):Prop:=AQ Tryz.prog I0 70 [vA Av a0,vI a1] (· =vL (eI .i64) r)
theorem Is {a0:AD} {a1:Int} {r:(List (Int))} (h:D3 a0 a1=some r):Zk a0 a1 r:=Cz (by kernel_rfl) (Zj.ok (a0,a1,()) r h)
def Rz (b4_3:Ah):Option (Ah):=
 some b4_3
def Kp (a0:Ah) (a1:BI) (a2:Int) (a3:Int):Option (Ah):=
 (ST a1).bind fun r1=>
 (if(!r1)=true then
  some a0
 else
  jn (fun(v:Ah)=>Rz v) (fun jJ4=>
  (if(a1.Kind==1)=true then
   jJ4 ({a0 with Control:=a2})
  else
   (if(a1.Kind==2)=true then
    jJ4 ({a0 with Line:={a0.Line with Types:=a1.N}})
   else
    (if(a1.Kind==3)=true then
     jJ4 ({a0 with Line:={a0.Line with Types:=eO .i64 a0.Line.Types a1.N}})
    else
     (if(a1.Kind==4)=true then
      jJ4 (⟨a0.Name,a0.Cost,a0.Colors,(⟨a0.Line.Super,a0.Line.Types,([a1.Sub]:List (List UInt8))⟩:BZ),a0.Power,a0.Tough,a0.Keys,a0.Abilities,a0.Control⟩:Ah)
     else
      (if(a1.Kind==5)=true then
       (FR a0.Line a1.Sub).bind fun r10=>
       jJ4 ({a0 with Line:=r10})
      else
       (if(a1.Kind==6)=true then
        jJ4 ({a0 with Colors:=a1.N})
       else
        (if(a1.Kind==7)=true then
         jJ4 ({a0 with Colors:=eO .i64 a0.Colors a1.N})
        else
         (if(a1.Kind==8)=true then
          jJ4 ({a0 with Keys:=eO .i64 a0.Keys a1.N})
         else
          (if(a1.Kind==9)=true then
           jJ4 ({a0 with Keys:=VE .i64 a0.Keys a1.N})
          else
           (if(a1.Kind==10)=true then
            jJ4 (⟨({a0 with Keys:=(0:Int)}).Name,({a0 with Keys:=(0:Int)}).Cost,({a0 with Keys:=(0:Int)}).Colors,({a0 with Keys:=(0:Int)}).Line,({a0 with Keys:=(0:Int)}).Power,({a0 with Keys:=(0:Int)}).Tough,({a0 with Keys:=(0:Int)}).Keys,([]:List (Aw)),({a0 with Keys:=(0:Int)}).Control⟩:Ah)
           else
            (if(a1.Kind==11)=true then
             (Cj a3).bind fun r17=>
             (Cj a3).bind fun r18=>
             jJ4 ({{a0 with Power:=r17}with Tough:=r18})
            else
             (if(a1.Kind==12)=true then
              jJ4 ({{a0 with Power:=a1.N}with Tough:=a1.M})
             else
              (if(a1.Kind==13)=true then
               (Gb a0.Power a1.N).bind fun r21=>
               (Gb (({a0 with Power:=r21}).Tough) a1.M).bind fun r22=>
               jJ4 ({{a0 with Power:=r21}with Tough:=r22})
              else
               (if(a1.Kind==14)=true then
                jJ4 ({{a0 with Power:=a0.Tough}with Tough:=a0.Power})
               else
                jJ4 a0))))))))))))))))
def iL:CE TE Tryz.prog I0:=AK [Yc,E_r10_AddSub,I5,SP] Ab Ad 9 111 Tryz.f111 (Tryz.f111.body.getD .skip) (.s .n (.s .n (.j ⟨[4,8],[],[[8]],[([4], .box [.v (.s 70)])]⟩ .n .n))) [.s 70, .s 151, .k (.int .i64), .k (.int .i64)] [.s 70] (fun x=>Kp x.1 x.2.1 x.2.2.1 x.2.2.2.1) Tryz.func111 rfl (by kernel_rfl)
def iM (a0:Ah) (a1:BI) (a2:Int) (a3:Int) (r:Ah):Prop:=AQ Tryz.prog I0 111 [vA Ag a0,vA Bg a1,vI a2,vI a3] (· =vA Ag r)
theorem d6 {a0:Ah} {a1:BI} {a2:Int} {a3:Int} {r:Ah} (h:Kp a0 a1 a2 a3=some r):iM a0 a1 a2 a3 r:=Cz (by kernel_rfl) (iL.ok (a0,a1,a2,a3,()) r h)
end Go.PL
