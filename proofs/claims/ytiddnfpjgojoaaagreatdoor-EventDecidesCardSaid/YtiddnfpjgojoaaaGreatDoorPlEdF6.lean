/- Functions of the program, as partial functions in Lean, with proofs. -/
import Derived.Test.YtiddnfpjgojoaaaGreatDoorPlEdB
import Derived.Test.YtiddnfpjgojoaaaGreatDoorPlEdF0
import Derived.Test.YtiddnfpjgojoaaaGreatDoorPlEdF1
import Derived.Test.YtiddnfpjgojoaaaGreatDoorPlEdF4
import Derived.Test.YtiddnfpjgojoaaaGreatDoorPlEdF5
namespace Go.PL
open Go Go.RowKit Go.Proofs
set_option maxRecDepth 100000
set_option linter.all false
set_option maxHeartbeats 4000000
attribute [local irreducible] Aj BO Bz
def ES (a0:List UInt8):Option (Bool):=
 (SM a0).bind fun r1=>
 (gd (r1==true) (E8)).bind fun r2=>
 (gd (r1==true) (Hq r2 a0)).bind fun r3=>
 (some (if r1=true then decide (r3<0)else false)).bind fun b4=>
 (gd (b4==true) (Es)).bind fun r5=>
 (gd (b4==true) (Hq r5 a0)).bind fun r6=>
 (some (if b4=true then decide (r6<0)else false)).bind fun b7=>
 some b7
def I9:CE TE Tryz.prog I0:=AK [XU,SJ,UJ,LI] Ab Ad 9 77 Tryz.f77 (Tryz.f77.body.getD .skip) .n [.k (.str)] [.k (.bool)] (fun x=>ES x.1) Tryz.func77 rfl (by kernel_rfl)
def iw (a0:List UInt8) (r:Bool):Prop:=AQ Tryz.prog I0 77 [vS a0] (· =vB r)
theorem dJ {a0:List UInt8} {r:Bool} (h:ES a0=some r):iw a0 r:=Cz (by kernel_rfl) (I9.ok (a0,()) r h)
def Dy (a0:Int):Option ((List UInt8)):=
 (some (if(decide (a0<1))=true then true else decide (63<a0))).bind fun b1=>
 (if b1=true then
  some ([]:List UInt8)
 else
  (Es).bind fun r3=>
  (K2 r3 a0 IY).bind fun r4=>
  some r4)
def LT:CE TE Tryz.prog I0:=AK [LI,dv] Ab Ad 9 131 Tryz.f131 (Tryz.f131.body.getD .skip) .n [.k (.int .i64)] [.k (.str)] (fun x=>Dy x.1) Tryz.func131 rfl (by kernel_rfl)
def UR (s_t3_3:List UInt8):Option ((List UInt8)):=
 (if(s_t3_3==([]:List UInt8))=true then
  some Qw
 else
  some s_t3_3)
def Hf (mask_t0_9:Int) (i_t4_11:Int) (s_t3_15:List UInt8):Option ((Int×(List UInt8)×Int)⊕((List UInt8))):=
 some (.inl ((Ac (Int.tdiv mask_t0_9 (2:Int))),s_t3_15,(Ac (i_t4_11+1))))
def K8 (i_t4_11:Int) (jJ16:((List UInt8))→Option ((Int×(List UInt8)×Int)⊕((List UInt8)))) (s_t3_18:List UInt8):Option ((Int×(List UInt8)×Int)⊕((List UInt8))):=
 (MS i_t4_11).bind fun r20=>
 (cat s_t3_18 r20).bind fun s21=>
 jJ16 s21
def K9 (mask_t0_9:Int) (s_t3_10:List UInt8) (i_t4_11:Int):Option ((Int×(List UInt8)×Int)⊕((List UInt8))):=
 (if(decide (i_t4_11<17))=true then
  jn (fun(v:(List UInt8))=>Hf mask_t0_9 i_t4_11 v) (fun jJ16=>
  (if((Int.tmod mask_t0_9 (2:Int))==(1:Int))=true then
   jn (fun(v:(List UInt8))=>K8 i_t4_11 jJ16 v) (fun jJ19=>
   (if(s_t3_10 != ([]:List UInt8))=true then
    (cat s_t3_10 IY).bind fun s23=>
    jJ19 s23
   else
    jJ19 s_t3_10))
  else
   jJ16 s_t3_10))
 else
  some (.inr s_t3_10))
def M0 (a0:Int):Option ((List UInt8)):=
 (XF a0).bind fun r1=>
 (if(!r1)=true then
  some ([]:List UInt8)
 else
  jn (fun(v:(List UInt8))=>UR v) (fun jJ4=>
  (iter (fun(v:Int×(List UInt8)×Int)=>K9 v.1 v.2.1 v.2.2) FU (a0,([]:List UInt8),(0:Int))).bind (fun o0=>jJ4 o0)))
def lP:CE TE Tryz.prog I0:=AK [gR,XV] Ab Ad 9 133 Tryz.f133 (Tryz.f133.body.getD .skip) (.s .n (.s .n (.s .n (.j ⟨[],[(3, .c (.v (.k (.str))))],[],[]⟩ (.s .n (.l ⟨[],[(0, .c (.v (.k (.int .i64)))),(3, .c (.v (.k (.str)))),(4, .c (.v (.k (.int .i64))))],[],[]⟩ [(1,⟨[],[(3, .c (.v (.k (.str))))],[],[]⟩)] (.s .n (.s (.j ⟨[0,4],[(3, .c (.v (.k (.str))))],[],[]⟩ (.s .n (.i (.j ⟨[0,4],[(3, .c (.v (.k (.str))))],[],[]⟩ .n .n) .n)) .n) .n)))) .n)))) [.k (.int .i64)] [.k (.str)] (fun x=>M0 x.1) Tryz.func133 rfl (by kernel_rfl)
def Dz (a0:List UInt8) (a1:Az):Option ((List UInt8)):=
 (if(a1.Kind==0)=true then
  some ([]:List UInt8)
 else
  (N3).bind fun r2=>
  (idx r2 a1.Kind).bind fun e3=>
  (cat a0 e3).bind fun s4=>
  (Ff a1.N).bind fun r5=>
  (cat s4 r5).bind fun s6=>
  some s6)
def Vh:CE TE Tryz.prog I0:=AK [gY,PC] Ab Ad 9 173 Tryz.f173 (Tryz.f173.body.getD .skip) .n [.k (.str), .s 90] [.k (.str)] (fun x=>Dz x.1 x.2.1) Tryz.func173 rfl (by kernel_rfl)
def US (s_t3_7:List UInt8):Option ((List UInt8)):=
 (if(s_t3_7==([]:List UInt8))=true then
  some ym
 else
  some s_t3_7)
def Rb (i_t5_13:Int) (s_t3_17:List UInt8):Option (((List UInt8)×Int)⊕((List UInt8))):=
 some (.inl (s_t3_17,(Ac (i_t5_13+1))))
def La (a0:Bs) (i_t5_13:Int) (s_t3_21:List UInt8) (k_t6_22:Int):Option (((List UInt8)×Int)⊕((List UInt8))):=
 (idx a0.Color.l i_t5_13).bind fun e25=>
 (idx a0.Color.l i_t5_13).bind fun e26=>
 (if(decide (k_t6_22<e26))=true then
  (ssub bm i_t5_13 (Ac (i_t5_13+1))).bind fun s28=>
  (cat s_t3_21 s28).bind fun s29=>
  some (.inl (s29,(Ac (k_t6_22+1))))
 else
  some (.inr s_t3_21))
def Lb (a0:Bs) (s_t3_12:List UInt8) (i_t5_13:Int):Option (((List UInt8)×Int)⊕((List UInt8))):=
 (if(decide (i_t5_13<5))=true then
  jn (fun(v:(List UInt8))=>Rb i_t5_13 v) (fun jJ18=>
  (iter (fun(v:(List UInt8)×Int)=>La a0 i_t5_13 v.1 v.2) FU (s_t3_12,(0:Int))).bind (fun o0=>jJ18 o0))
 else
  some (.inr s_t3_12))
def M1 (a0:Bs) (s_t3_5:List UInt8):Option ((List UInt8)):=
 jn (fun(v:(List UInt8))=>US v) (fun jJ8=>
 (iter (fun(v:(List UInt8)×Int)=>Lb a0 v.1 v.2) FU (s_t3_5,(0:Int))).bind (fun o0=>jJ8 o0))
def M2 (a0:Bs) (s_t3_3:List UInt8):Option ((List UInt8)):=
 jn (fun(v:(List UInt8))=>M1 a0 v) (fun jJ6=>
 (if(a0.Generic != 0)=true then
  (Ff a0.Generic).bind fun r31=>
  (cat s_t3_3 r31).bind fun s32=>
  jJ6 s32
 else
  jJ6 s_t3_3))
def Lc (a0:Bs) (s_t3_35:List UInt8) (i_t4_36:Int):Option (((List UInt8)×Int)⊕((List UInt8))):=
 (if(decide (i_t4_36<a0.X))=true then
  (cat s_t3_35 rP).bind fun s40=>
  some (.inl (s40,(Ac (i_t4_36+1))))
 else
  some (.inr s_t3_35))
def Rc (a0:Bs):Option ((List UInt8)):=
 (MH a0).bind fun r1=>
 (if(!r1)=true then
  some ([]:List UInt8)
 else
  jn (fun(v:(List UInt8))=>M2 a0 v) (fun jJ4=>
  (iter (fun(v:(List UInt8)×Int)=>Lc a0 v.1 v.2) FU (([]:List UInt8),(0:Int))).bind (fun o0=>jJ4 o0)))
def lQ:CE TE Tryz.prog I0:=AK [MI,PC] Ab Ad 9 184 Tryz.f184 (Tryz.f184.body.getD .skip) (.s .n (.s .n (.s .n (.j ⟨[1],[(3, .c (.v (.k (.str))))],[[1]],[]⟩ (.s .n (.l ⟨[1],[(3, .c (.v (.k (.str)))),(4, .c (.v (.k (.int .i64))))],[[1]],[]⟩ [(1,⟨[1],[(3, .c (.v (.k (.str))))],[[1]],[]⟩)] .n)) (.j ⟨[1],[(3, .c (.v (.k (.str))))],[[1]],[]⟩ .n (.j ⟨[],[(3, .c (.v (.k (.str))))],[],[]⟩ (.s .n (.l ⟨[1],[(3, .c (.v (.k (.str)))),(5, .c (.v (.k (.int .i64))))],[[1]],[]⟩ [(3,⟨[],[(3, .c (.v (.k (.str))))],[],[]⟩)] (.s .n (.j ⟨[1,5],[(3, .c (.v (.k (.str))))],[[1]],[]⟩ (.s .n (.l ⟨[1,5],[(3, .c (.v (.k (.str)))),(6, .c (.v (.k (.int .i64))))],[[1]],[]⟩ [(5,⟨[1,5],[(3, .c (.v (.k (.str))))],[[1]],[]⟩)] .n)) .n)))) .n)))))) [.s 64] [.k (.str)] (fun x=>Rc x.1) Tryz.func184 rfl (by kernel_rfl)
def FO (a0:Ao) (a1:Int):Option (AO×Bool):=
 (Q6 a0 a1).bind fun r1=>
 some (r1.1,r1.2)
def Rf:CE TE Tryz.prog I0:=AK [lK] Ab Ad 9 85 Tryz.f85 (Tryz.f85.body.getD .skip) .n [.s 31, .k (.int .i64)] [.s 61, .k (.bool)] (fun x=>FO x.1 x.2.1) Tryz.func85 rfl (by kernel_rfl)
def Rh (a0:Ao) (a1:Int) (r:AO×Bool):Prop:=AQ Tryz.prog I0 85 [vA A4 a0,vI a1] (· = .tup [vA Ai r.1,vB r.2])
theorem Y6 {a0:Ao} {a1:Int} {r:AO×Bool} (h:FO a0 a1=some r):Rh a0 a1 r:=Cz (by kernel_rfl) (Rf.ok (a0,a1,()) r h)
def FP (a0:Ao) (a1:AO):Option (Bool):=
 (if(a1.Zone==5)=true then
  (Ic a0 a1.Id).bind fun r2=>
  some (r2==1)
 else
  (MV a0 a1.Zone a1.Owner).bind fun r3=>
  (Hs r3 a1.Id).bind fun r4=>
  some (r4==1))
def dK (a0:Ao) (a1:AO) (r:Bool):Prop:=AQ Tryz.prog I0 54 [vA A4 a0,vA Ai a1] (· =vB r)
theorem Y7 {a0:Ao} {a1:AO} {r:Bool} (h:FP a0 a1=some r):dK a0 a1 r:=by
 refine AQ.bo Ab Tryz.func54 rfl Tryz.ntmps54 [.tmp 4] fun _ _ _ _=>?_
 unfold FP at h
 refine Rg (nA 3) (sl 23 [(2,vP [2] (0)),(3,vP [3] (0))] [bx [3] (Ai a1),bx [2] (A4 a0)]) (aN)<|hS<|Gg (nA 3) (u [] [(7,vB (a1.Zone==5))]) (aN)<|iC h (fun h=>?_) (fun h=>?_)
 ·obtain⟨r2,i0,h⟩:=bS h
  exact Rg [.a,.a,.a,(.c (vI r2)),.a,.a] (sl 23 [(4,vB (r2==1))] []) (aC (YR i0)<|aN)<|hR<|Tr<|bQ _ (kB h)
 refine hK<|Tn<|hS ?_
 obtain⟨r3,j0,r4,k0,h⟩:=YG h
 exact Aj.regS Ad [[],[],[1],[],[3],[0,1,2,3,4],[],[6],[0,1,2,3,4,5,6,7],[0,1,2,3,4,5,6,7,8],[0,1,2,3,4,5,6,7,8,9]] [] [[]] [.a,.a,.a,.a,.a,(.c (vL (eI .i64) r3)),.a,.a,(.c (vI r4)),.a,.a] [[3],[2]] ⟨nk 23 0 [(2,[],vP [2] (0)),(3,[],vP [3] (0)),(4,[(10,vB (r4==1))],.undef),(7,[],vB (a1.Zone==5)),(13,[(0,vA A4 a0)],.undef),(14,[(1,vP [3] (4))],.undef),(15,[(2,vI a1.Zone)],.undef),(16,[(3,vP [3] (2))],.undef),(17,[(4,vI a1.Owner)],.undef),(18,[(5,vL (eI .i64) r3)],.undef),(19,[(6,vP [3] (0))],.undef),(20,[(7,vI a1.Id)],.undef),(21,[(8,vI r4)],.undef),(22,[(9,vB (r4==1))],.undef)],[([],some (bx [3] (Ai a1))),([],some (bx [2] (A4 a0)))],[],[]⟩ _ (bC (aN)<|bC (aN)<|bC (aN)<|bC (aN)<|bC (aN)<|bC (aC (iq j0)<|aN)<|bC (aN)<|bC (aN)<|bC (aC (QX k0)<|aN)<|bC (aN)<|bC (aN)<|bN)<|Tn<|Ls (sl 23 [(4,vB (r4==1))] [])<|hR<|bQ _ (kB h)def E_r26_placed:CE TE Tryz.prog I0:=⟨54,[.s 31, .s 61],[.k (.bool)],fun x=>FP x.1 x.2.1,fun x r h=>Cz (by kernel_rfl) (Y7 (r:=r) h)⟩
def Vi:Option (Bool):=
 some true
def LU (a0:List (AV)) (a1:List (AV)) (i_t5_4:Int):Option ((Int)⊕(Unit⊕Bool)):=
 (if(decide (i_t5_4<(a0.length:Int)))=true then
  (idx a0 i_t5_4).bind fun e8=>
  (idx a1 i_t5_4).bind fun e9=>
  (Q7 e8 e9).bind fun r10=>
  (if(!r10)=true then
   some (.inr (.inr false))
  else
   some (.inl (Ac (i_t5_4+1))))
 else
  some (.inr (.inl ())))
def Hg (a0:List (AV)) (a1:List (AV)):Option (Bool):=
 (if((a0.length:Int) != (a1.length:Int))=true then
  some false
 else
  jn (fun(v:Unit)=>Vi) (fun jJ2=>
  (iter (fun(v:Int)=>LU a0 a1 v) FU (0:Int)).bind (Sum.elim (fun o0=>jJ2 ()) (fun o1=>some o1))))
def X4:CE TE Tryz.prog I0:=AK [lN] Ab Ad 9 128 Tryz.f128 (Tryz.f128.body.getD .skip) (.s .n (.s .n (.j ⟨[],[],[],[]⟩ (.s .n (.l ⟨[0,1],[(5, .c (.v (.k (.int .i64))))],[],[]⟩ [(1,⟨[],[],[],[]⟩),(0,⟨[],[(4, .c (.v (.k (.bool))))],[],[]⟩)] .n)) .n))) [.k (.lst 119), .k (.lst 119)] [.k (.bool)] (fun x=>Hg x.1 x.2.1) Tryz.func128 rfl (by kernel_rfl)
def CT (a0:Ao) (a1:Int):Option (AO×Bool):=
 (Ki a0 a1).bind fun r1=>
 (some (if r1.2=true then r1.1.Zone==0 else false)).bind fun b2=>
 some (r1.1,b2)
def Vj (a0:Ao) (a1:Int) (r:AO×Bool):Prop:=AQ Tryz.prog I0 28 [vA A4 a0,vI a1] (· = .tup [vA Ai r.1,vB r.2])
theorem SQ {a0:Ao} {a1:Int} {r:AO×Bool} (h:CT a0 a1=some r):Vj a0 a1 r:=by
 refine AQ.bo Ab Tryz.func28 rfl Tryz.ntmps28 [.cell 4 61, .tmp 5] fun _ _ _ _=>?_
 unfold CT at h
 refine Rg (nA 3) (sl 21 [(1,vI a1),(2,vP [2] (0)),(4,vP [4] (0))] [bx [4] [Aa 0,Aa 0,Aa 0,Aa 0,Aa 0,.bool false,.bool false,.bool false,.bool false,Aa 0,Aa (((⟨0,0,0⟩:A3 (Int))).x0),Aa (((⟨0,0,0⟩:A3 (Int))).x1),Aa (((⟨0,0,0⟩:A3 (Int))).x2),Aa 0,Aa 0,Aa 0,.bool false,Aa 0,Aa 0],bx [2] (A4 a0)]) (aN) ?_
 obtain⟨r1,j0,h⟩:=bS h
 refine Gg [.a,.a,(.c (.tup [vA Ai r1.1,vB r1.2])),.a,.a,.a,.a,.a,.a] (uo [1,2] [(6,vP [6] (0)),(7,vB r1.2)] [.e (bx [6] (Ai r1.1)),.k 0]) (aC (dz j0)<|aC (show True∧0<[V.undef,V.undef].length from⟨trivial,(by decide)⟩)<|aC (show True∧1<[V.undef,V.undef].length from⟨trivial,(by decide)⟩)<|aN)<|hS ?_
 obtain⟨b2,i0,h⟩:=bS h
 exact Aj.regN [0,1,2,3,6,7,14,15,30,31,62,63,126,127,255,511,191,159,143,135] 511 [.a,.a,.a,.a,.a,.a,(.v (vB b2)),.a,.a] [[6],[4]] (fun n=>⟨[.undef,.undef,.undef,.undef,vP [4] (0),cond (Nat.testBit n 8) (vB b2) (.undef),vP [6] (0),vB r1.2,.undef,.undef,.undef,.undef,.undef,.undef,cond (Nat.testBit n 0) (vA Ai r1.1) (.undef),cond (Nat.testBit n 1) (vB r1.2) (.undef),cond (Nat.testBit n 2) (vB r1.2) (.undef),cond (Nat.testBit n 3) (.g (r1.2==true) (vP [6] (4))) (.undef),cond (Nat.testBit n 4) (.g (r1.2==true) (vI r1.1.Zone)) (.undef),cond (Nat.testBit n 5) (.g (r1.2==true) (vB (r1.1.Zone==0))) (.undef),cond (Nat.testBit n 6) (vB b2) (.undef)],List.filterMap id [some (bx [6] (Ai r1.1)),cond (Nat.testBit n 7) (some (bx [4] (Ai r1.1))) (some (bx [4] [Aa 0,Aa 0,Aa 0,Aa 0,Aa 0,.bool false,.bool false,.bool false,.bool false,Aa 0,Aa (((⟨0,0,0⟩:A3 (Int))).x0),Aa (((⟨0,0,0⟩:A3 (Int))).x1),Aa (((⟨0,0,0⟩:A3 (Int))).x2),Aa 0,Aa 0,Aa 0,.bool false,Aa 0,Aa 0]))],[],[]⟩) [[],[],[],[],[(r1.2==true)=true→Bb [(r1.2==true)=true→(r1.2==true)=true]],[(r1.2==true)=true→Bb [(r1.2==true)=true→(r1.2==true)=true]],[r1.2=true→(r1.2==true)=true,(vB (if r1.2=true then r1.1.Zone==0 else false):V)=vB b2],[],[]] Ad (by kernel_rfl) (by kernel_rfl) (by decide) (Cb.t (by kernel_rfl)) (by kernel_rfl) ⟨trivial,trivial,trivial,trivial,⟨(fun hg=>⟨id,trivial⟩),trivial⟩,⟨(fun hg=>⟨id,trivial⟩),trivial⟩,⟨(fun q=>(gT q)),(congrArg vB (sI i0)),trivial⟩,trivial,trivial,trivial⟩<|Tn<|Gs (uo [6,7,14,15,16,17,18,19,20] [] [.k 1])<|hR<|bE (.tup [vA Ai r1.1,vB b2]) (.tup [.agg (Ai r1.1),vB b2]) (congrArg (fun(q:AO×Bool)=>(.tup [vA Ai q.1,vB q.2]:V)) (sI h))def E_event_fielded:CE TE Tryz.prog I0:=⟨28,[.s 31, .k (.int .i64)],[.s 61, .k (.bool)],fun x=>CT x.1 x.2.1,fun x r h=>Cz (by kernel_rfl) (SQ (r:=r) h)⟩
def UT (a0:Ao) (a1:Be):Option (Bool):=
 (Ki a0 a1.Object).bind fun r1=>
 (some (if r1.2=true then r1.1.Zone==a1.From else false)).bind fun b2=>
 (some (if b2=true then a1.To != a1.From else false)).bind fun b3=>
 (some (if b3=true then decide (0≤a1.To)else false)).bind fun b4=>
 (some (if b4=true then decide (a1.To≤4)else false)).bind fun b5=>
 (some (if b5=true then decide (0≤a1.Player)else false)).bind fun b6=>
 (some (if b6=true then decide (a1.Player<(a0.Players.length:Int))else false)).bind fun b7=>
 some b7
def Y8:CE TE Tryz.prog I0:=AK [MW] Ab Ad 9 30 Tryz.f30 (Tryz.f30.body.getD .skip) .n [.s 31, .s 34] [.k (.bool)] (fun x=>UT x.1 x.2.1) Tryz.func30 rfl (by kernel_rfl)
def Km (a0:A3 (Int)):Option (Int):=
 (idx a0.l (0:Int)).bind fun e1=>
 (idx a0.l (0:Int)).bind fun e2=>
 (idx a0.l (1:Int)).bind fun e3=>
 (idx a0.l (1:Int)).bind fun e4=>
 (VW e2 e4).bind fun r5=>
 some r5
def iy:CE TE Tryz.prog I0:=AK [pC] Ab Ad 9 64 Tryz.f64 (Tryz.f64.body.getD .skip) .n [.s 32] [.k (.int .i64)] (fun x=>Km x.1) Tryz.func64 rfl (by kernel_rfl)
def iz (a0:A3 (Int)) (r:Int):Prop:=AQ Tryz.prog I0 64 [vA (xq (eI .i64)) a0] (· =vI r)
theorem dM {a0:A3 (Int)} {r:Int} (h:Km a0=some r):iz a0 r:=Cz (by kernel_rfl) (iy.ok (a0,()) r h)
def Ld (a0:Bs) (n_t5_3:Int) (x_t1_5:Int):Option (Int):=
 (VX a0.X x_t1_5).bind fun r7=>
 (Gb n_t5_3 r7).bind fun r8=>
 some r8
def Ri (a0:Bs) (a1:Int) (n_t5_3:Int):Option (Int):=
 jn (fun(v:Int)=>Ld a0 n_t5_3 v) (fun jJ6=>
 (if(decide (a1<0))=true then
  jJ6 (0:Int)
 else
  jJ6 a1))
def JB (a0:Bs) (n_t5_12:Int) (i_t6_13:Int):Option ((Int×Int)⊕(Int)):=
 (if(decide (i_t6_13<5))=true then
  (idx a0.Color.l i_t6_13).bind fun e17=>
  (idx a0.Color.l i_t6_13).bind fun e18=>
  (Gb n_t5_12 e18).bind fun r19=>
  some (.inl (r19,(Ac (i_t6_13+1))))
 else
  some (.inr n_t5_12))
def Oc (a0:Bs) (a1:Int):Option (Int):=
 (MH a0).bind fun r1=>
 (if(!r1)=true then
  some (0:Int)
 else
  jn (fun(v:Int)=>Ri a0 a1 v) (fun jJ4=>
  (iter (fun(v:Int×Int)=>JB a0 v.1 v.2) FU (a0.Generic,(0:Int))).bind (fun o0=>jJ4 o0)))
def iA:CE TE Tryz.prog I0:=AK [MI,SP,pI] Ab Ad 9 181 Tryz.f181 (Tryz.f181.body.getD .skip) (.s .n (.s .n (.s .n (.j ⟨[1,2],[(5, .c (.v (.k (.int .i64))))],[[2]],[]⟩ (.s .n (.l ⟨[1,2],[(5, .c (.v (.k (.int .i64)))),(6, .c (.v (.k (.int .i64))))],[[2]],[]⟩ [(1,⟨[1,2],[(5, .c (.v (.k (.int .i64))))],[[2]],[]⟩)] .n)) (.j ⟨[2,5],[(1, .c (.v (.k (.int .i64))))],[[2]],[]⟩ .n .n))))) [.s 64, .k (.int .i64)] [.k (.int .i64)] (fun x=>Oc x.1 x.2.1) Tryz.func181 rfl (by kernel_rfl)
end Go.PL
