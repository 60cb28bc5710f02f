/- Functions of the program, as partial functions in Lean, with proofs. -/
import Derived.Test.YtiddnfpjgojoaaaGreatDoorPlEdB
import Derived.Test.YtiddnfpjgojoaaaGreatDoorPlEdF1
import Derived.Test.YtiddnfpjgojoaaaGreatDoorPlEdF10
import Derived.Test.YtiddnfpjgojoaaaGreatDoorPlEdF12
import Derived.Test.YtiddnfpjgojoaaaGreatDoorPlEdF14
import Derived.Test.YtiddnfpjgojoaaaGreatDoorPlEdF15
import Derived.Test.YtiddnfpjgojoaaaGreatDoorPlEdF2
import Derived.Test.YtiddnfpjgojoaaaGreatDoorPlEdF4
import Derived.Test.YtiddnfpjgojoaaaGreatDoorPlEdF5
import Derived.Test.YtiddnfpjgojoaaaGreatDoorPlEdF8
namespace Go.PL
open Go Go.RowKit Go.Proofs
set_option maxRecDepth 100000
set_option linter.all false
set_option maxHeartbeats 4000000
attribute [local irreducible] Aj BO Bz
def An (vt5_3:Bool) (b8:Bool) (b12:Bool) (vt8_13:Bool) (vt9_15:Bool) (vt10_17:Bool) (vt11_19:Bool) (vt12_21:Bool):Option (Bool):=
 (some (if vt5_3=true then b8 else false)).bind fun b23=>
 (some (if b23=true then b12 else false)).bind fun b24=>
 (some (if b24=true then vt8_13 else false)).bind fun b25=>
 (some (if b25=true then vt9_15 else false)).bind fun b26=>
 (some (if b26=true then vt10_17 else false)).bind fun b27=>
 (some (if b27=true then vt11_19 else false)).bind fun b28=>
 (some (if b28=true then vt12_21 else false)).bind fun b29=>
 some b29
def AR (a0:AV) (vt5_3:Bool) (b8:Bool) (b12:Bool) (vt8_13:Bool) (vt9_15:Bool) (vt10_17:Bool) (vt11_19:Bool):Option (Bool):=
 jn (fun(v:Bool)=>An vt5_3 b8 b12 vt8_13 vt9_15 vt10_17 vt11_19 v) (fun jJ22=>
 (DW a0.Op (102:Int)).bind fun r30=>
 (if r30=true then
  (Lu a0.Op a0.Filter).bind fun r32=>
  jJ22 r32
 else
  jJ22 (a0.Filter==(⟨0,0,0,0,0,0,0,[],0,0,(⟨0,0⟩:Az),(⟨0,0⟩:Az),(⟨0,0⟩:Az)⟩:Ar))))
def BE (a0:AV) (vt5_3:Bool) (b8:Bool) (b12:Bool) (vt8_13:Bool) (vt9_15:Bool) (vt10_17:Bool):Option (Bool):=
 jn (fun(v:Bool)=>AR a0 vt5_3 b8 b12 vt8_13 vt9_15 vt10_17 v) (fun jJ20=>
 (DW a0.Op (112:Int)).bind fun r33=>
 (if r33=true then
  (gd ((!(a0.Pool==(⟨0,0,0,0,0,0⟩:A6 (Int))))==true) (Hi a0.Pool)).bind fun r35=>
  (some (if(!(a0.Pool==(⟨0,0,0,0,0,0⟩:A6 (Int))))=true then r35 != ([]:List UInt8)else false)).bind fun b36=>
  jJ20 b36
 else
  jJ20 (a0.Pool==(⟨0,0,0,0,0,0⟩:A6 (Int)))))
def Dg (a0:AV) (vt5_3:Bool) (b8:Bool) (b12:Bool) (vt8_13:Bool) (vt9_15:Bool):Option (Bool):=
 jn (fun(v:Bool)=>BE a0 vt5_3 b8 b12 vt8_13 vt9_15 v) (fun jJ18=>
 (DW a0.Op (109:Int)).bind fun r37=>
 (if r37=true then
  (RA a0.Mods).bind fun r39=>
  jJ18 r39
 else
  jJ18 ((a0.Mods.length:Int)==0)))
def Iw (a0:AV) (vt5_3:Bool) (b8:Bool) (b12:Bool) (vt8_13:Bool):Option (Bool):=
 jn (fun(v:Bool)=>Dg a0 vt5_3 b8 b12 vt8_13 v) (fun jJ16=>
 (DW a0.Op (97:Int)).bind fun r40=>
 (if r40=true then
  (dU a0.Amount).bind fun r42=>
  jJ16 r42
 else
  jJ16 (a0.Amount==(⟨0,0,0,(⟨0,0,0,0,0,0,0,[],0,0,(⟨0,0⟩:Az),(⟨0,0⟩:Az),(⟨0,0⟩:Az)⟩:Ar)⟩:Cd))))
def SV (a0:AV) (vt5_3:Bool):Option (Bool):=
 (gd ((a0.Zone==0)==false) (DW a0.Op (122:Int))).bind fun r5=>
 (some (if r5=true then decide (0<a0.Zone)else false)).bind fun b6=>
 (some (if b6=true then decide (a0.Zone≤4)else false)).bind fun b7=>
 (some (if(a0.Zone==0)=true then true else b7)).bind fun b8=>
 (gd ((a0.Counter==0)==false) (DW a0.Op (107:Int))).bind fun r9=>
 (gd (((a0.Counter==0)==false)&&(r9==true)) (ML a0.Counter)).bind fun r10=>
 (some (if r9=true then r10 != ([]:List UInt8)else false)).bind fun b11=>
 (some (if(a0.Counter==0)=true then true else b11)).bind fun b12=>
 jn (fun(v:Bool)=>Iw a0 vt5_3 b8 b12 v) (fun jJ14=>
 (DW a0.Op (99:Int)).bind fun r43=>
 (if r43=true then
  (SM a0.Card).bind fun r45=>
  jJ14 r45
 else
  jJ14 (a0.Card==([]:List UInt8))))
def d9 (a0:AV) (a1:Int):Option (Bool):=
 (QO a0.Op).bind fun r1=>
 (if(r1==([]:List UInt8))=true then
  some false
 else
  jn (fun(v:Bool)=>SV a0 v) (fun jJ4=>
  (DW a0.Op (114:Int)).bind fun r46=>
  (if r46=true then
   (dT a0.Ref a1).bind fun r48=>
   jJ4 r48
  else
   jJ4 (a0.Ref==(⟨0,0,(⟨0,0,0,0,0,0,0,[],0,0,(⟨0,0⟩:Az),(⟨0,0⟩:Az),(⟨0,0⟩:Az)⟩:Ar)⟩:KQ)))))
def sf:CE TE Tryz.prog I0:=AK [lq,lJ,sc,XM,XU,sd,md,X8,dV] Ab Ad 9 124 Tryz.f124 (Tryz.f124.body.getD .skip) (.s .n (.s .n (.s .n (.j ⟨[2],[(5, .c (.v (.k (.bool))))],[[2]],[]⟩ .n (.s .n (.s .n (.s .n (.j ⟨[2,5,6,7],[(8, .c (.v (.k (.bool))))],[[2]],[]⟩ .n (.s .n (.j ⟨[2,5,6,7,8],[(9, .c (.v (.k (.bool))))],[[2]],[]⟩ .n (.s .n (.j ⟨[2,5,6,7,8,9],[(10, .c (.v (.k (.bool))))],[[2]],[]⟩ .n (.s .n (.j ⟨[2,5,6,7,8,9,10],[(11, .c (.v (.k (.bool))))],[[2]],[]⟩ .n (.s .n (.j ⟨[5,6,7,8,9,10,11],[(12, .c (.v (.k (.bool))))],[],[]⟩ .n .n)))))))))))))))) [.s 119, .k (.int .i64)] [.k (.bool)] (fun x=>d9 x.1 x.2.1) Tryz.func124 rfl (by kernel_rfl)
def Kq (a0:AD) (a1:Int) (a2:Int) (a3:Int):Option (Bool):=
 (if(a1==a2)=true then
  some false
 else
  (D6 a0 a2 a3).bind fun r2=>
  (DY a0 a1).bind fun r3=>
  (DY r2 a1).bind fun r4=>
  (gd ((r3 != r4)==false) (D3 a0 a1)).bind fun r5=>
  (gd ((r3 != r4)==false) (D3 r2 a1)).bind fun r6=>
  (gd ((r3 != r4)==false) (Kh r5 r6)).bind fun r7=>
  (some (if(r3 != r4)=true then true else !r7)).bind fun b8=>
  (gd (b8==false) (D5 a0 a1 a3)).bind fun r9=>
  (gd (b8==false) (D5 r2 a1 a3)).bind fun r10=>
  (gd (b8==false) (Kh r9 r10)).bind fun r11=>
  (some (if b8=true then true else !r11)).bind fun b12=>
  some b12)
def iP (a0:AD) (a1:Int) (a2:Int) (a3:Int) (r:Bool):Prop:=AQ Tryz.prog I0 67 [vA Av a0,vI a1,vI a2,vI a3] (· =vB r)
theorem ec {a0:AD} {a1:Int} {a2:Int} {a3:Int} {r:Bool} (h:Kq a0 a1 a2 a3=some r):iP a0 a1 a2 a3 r:=by
 refine AQ.bo Ab Tryz.func67 rfl Tryz.ntmps67 [.tmp 8] fun _ _ _ _=>?_
 unfold Kq at h
 refine Gg [.a,.a] (uo [0] [(4,vP [4] (0))] [.e (bx [4] (Av a0))]) (aN)<|hS<|Gg (nA 3) (u [] [(12,vB (a1==a2))]) (aN)<|iC h (fun h=>?_) (fun h=>?_)
 ·exact Rg [.a] (sl 46 [(8,vB false)] []) (aN)<|hR<|Tr<|bQ _ (kB h)
 refine hK<|Tn ?_
 obtain⟨r2,q0,h⟩:=bS h
 refine Gg [.a,.a,.a,(.c (vA Av r2)),.a,.a] (uo [2,12] [(9,vP [9] (0))] [.e (bx [9] (Av r2)),.k 0]) (aC (Nc q0)<|aN)<|hS ?_
 obtain⟨r3,t0,r4,x0,r5,y0,r6,z0,h⟩:=pT h
 obtain⟨r7,d1,b8,p0,r9,i1,k0,n0,h⟩:=pT h
 obtain⟨j0,o0,i0,m0,h⟩:=YG h
 exact Aj.regS Ad [[],[],[0,1],[],[],[0,1,2,3,4],[0,1,2,3,4,5],[0,1,2,3,4,5,6],[0,1,2,3,4,5,6,7],[0,1,2,3,4,5,6,7],[0,1,2,3,4,5,6,7,8,9],[0,1,2,3,4,5,6,7],[0,1,2,3,4,5,6,7],[0,1,2,3,4,5,6,7,8,9,10,11,12],[0,1,2,3,4,5,6,7,8,9,10,11,12,13],[0,1,2,3,4,5,6,7,8,9,10,11,12,13,14],[0,1,2,3,4,5,6,7,8,9,10,11,12,13,14,15],[0,1,2,3,4,5,6,7,8,9,10,11,12,13,14,15,16],[0,1,2,3,4,5,6,7,8,9,10,11,12,13,14,15,16,17],[0,1,2,3,4,5,6,7,8,9,10,11,12,13,14,15,16,17],[0,1,2,3,4,5,6,7,8,9,10,11,12,13,14,15,16,17],[0,1,2,3,4,5,6,7,8,9,10,11,12,13,14,15,16,17,18,19,20],[0,1,2,3,4,5,6,7,8,9,10,11,12,13,14,15,16,17],[0,1,2,3,4,5,6,7,8,9,10,11,12,13,14,15,16,17],[0,1,2,3,4,5,6,7,8,9,10,11,12,13,14,15,16,17],[0,1,2,3,4,5,6,7,8,9,10,11,12,13,14,15,16,17,18,19,20,21,22,23,24],[0,1,2,3,4,5,6,7,8,9,10,11,12,13,14,15,16,17,18,19,20,21,22,23,24,25],[0,1,2,3,4,5,6,7,8,9,10,11,12,13,14,15,16,17,18,19,20,21,22,23,24,25,26],[0,1,2,3,4,5,6,7,8,9,10,11,12,13,14,15,16,17,18,19,20,21,22,23,24,25,26,27],[0,1,2,3,4,5,6,7,8,9,10,11,12,13,14,15,16,17,18,19,20,21,22,23,24,25,26,27,28]] [] [[]] [.a,.a,(.c (vB r3)),.a,.a,(.c (vB r4)),.a,.a,.a,.a,(.c (vL (eI .i64) r5)),.a,.a,(.c (vL (eI .i64) r6)),(.c (vB r7)),.a,(.v (vB b8)),.a,.a,.a,.a,(.c (vL (eI .i64) r9)),.a,.a,.a,(.c (vL (eI .i64) k0)),(.c (vB j0)),.a,(.v (vB i0)),.a] [[9],[4]] ⟨nk 46 0 [(1,[],vI a1),(3,[],vI a3),(4,[],vP [4] (0)),(8,[(29,vB i0)],.undef),(9,[],vP [9] (0)),(17,[(0,vA Av a0)],.undef),(18,[(1,vI a1)],.undef),(19,[(2,vB r3)],.undef),(20,[(3,vA Av r2)],.undef),(21,[(4,vI a1)],.undef),(22,[(5,vB r4)],.undef),(23,[(6,vB (r3 != r4))],.undef),(24,[(7,vB (r3 != r4))],.undef),(25,[(8,.g ((r3 != r4)==false) (vA Av a0))],.undef),(26,[(9,.g ((r3 != r4)==false) (vI a1))],.undef),(27,[(10,.g ((r3 != r4)==false) (vL (eI .i64) r5))],.undef),(28,[(11,.g ((r3 != r4)==false) (vA Av r2))],.undef),(29,[(12,.g ((r3 != r4)==false) (vI a1))],.undef),(30,[(13,.g ((r3 != r4)==false) (vL (eI .i64) r6))],.undef),(31,[(14,.g ((r3 != r4)==false) (vB r7))],.undef),(32,[(15,.g ((r3 != r4)==false) (vB (!r7)))],.undef),(33,[(16,vB b8)],.undef),(34,[(17,vB b8)],.undef),(35,[(18,.g (b8==false) (vA Av a0))],.undef),(36,[(19,.g (b8==false) (vI a1))],.undef),(37,[(20,.g (b8==false) (vI a3))],.undef),(38,[(21,.g (b8==false) (vL (eI .i64) r9))],.undef),(39,[(22,.g (b8==false) (vA Av r2))],.undef),(40,[(23,.g (b8==false) (vI a1))],.undef),(41,[(24,.g (b8==false) (vI a3))],.undef),(42,[(25,.g (b8==false) (vL (eI .i64) k0))],.undef),(43,[(26,.g (b8==false) (vB j0))],.undef),(44,[(27,.g (b8==false) (vB (!j0)))],.undef),(45,[(28,vB i0)],.undef)],[([],some (bx [9] (Av r2))),([],some (bx [4] (Av a0)))],[],[]⟩ _ (bC (aN)<|bC (aN)<|bC (aC (JA t0)<|aN)<|bC (aN)<|bC (aN)<|bC (aC (JA x0)<|aN)<|bC (aC zm<|aN)<|bC (aN)<|bC (aN)<|bC (aN)<|bC (aC (c2 y0 Is)<|aN)<|bC (aN)<|bC (aN)<|bC (aC (c2 z0 Is)<|aN)<|bC (aC (c2 d1 UO)<|aN)<|bC (aG ((r3 != r4)==false)<|aN)<|bC (aF (r3 != r4)<|aB p0<|aN)<|bC (aN)<|bC (aN)<|bC (aN)<|bC (aN)<|bC (aC (c3 i1 Iv)<|aN)<|bC (aN)<|bC (aN)<|bC (aN)<|bC (aC (c3 n0 Iv)<|aN)<|bC (aC (c2 o0 UO)<|aN)<|bC (aG (b8==false)<|aN)<|bC (aF b8<|aB m0<|aN)<|bC (aN)<|bN)<|Tn<|Ls (sl 46 [(8,vB i0)] [])<|hR<|bQ _ (kB h)
end Go.PL
