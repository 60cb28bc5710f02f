/- Functions of the program, as partial functions in Lean, with proofs. -/
import Derived.Test.YtekonfaeacligaaGreatDoorPlLsB
namespace Go.PL
open Go Go.RowKit Go.Proofs
set_option maxRecDepth 100000
set_option linter.all false
set_option maxHeartbeats 4000000
attribute [local irreducible] Ak BW BI
def OQ:Option (Bool):=
 some true
def Iu (a0:AI) (aa2:Int):Option ((Int)⊕(Unit⊕Bool)):=
 (if(decide (aa2<(a0.N_.length:Int))) then
  (idx a0.N_ aa2).bind fun e12=>
  (gd ((decide (100<(e12.Sub.length:Int)))==false) (idx a0.N_ aa2)).bind fun e13=>
  (some (if(decide (100<(e12.Sub.length:Int))) then true else decide (100<(e13.Filter.Sub.length:Int)))).bind fun b14=>
  (if b14 then
   some (.inr (.inr false))
  else
   some (.inl (Aj (aa2+1))))
 else
  some (.inr (.inl ())))
def Mk (a0:AI):Option (Bool):=
 (some (if(decide (100<(a0.abF.length:Int))) then true else decide (100<(a0.Ref.Filter.Sub.length:Int)))).bind fun b1=>
 (some (if b1 then true else decide (100<(a0.abj.Filter.Sub.length:Int)))).bind fun b2=>
 (some (if b2 then true else decide (100<(a0.Filter.Sub.length:Int)))).bind fun b3=>
 (some (if b3 then true else decide (20<(a0.N_.length:Int)))).bind fun b4=>
 (if b4 then
  some false
 else
  jn (fun(v:Unit)=>OQ) (fun jJ6=>
  (iter (fun(v:Int)=>Iu a0 v) FU (0:Int)).bind (Sum.elim (fun o0=>jJ6 ()) (fun o1=>some o1))))
def fW:BH:=mC [] 50 Tryz.f50 (.s .n (.s .n (.j Ho (.s .n (.l ⟨[1],[Ci 3],[[1]],[]⟩ [(1,Ho),(0,⟨[],[GE 2],[],[]⟩)] .n)) .n))) [.s 112] [.k (.bool)] (fun x=>Mk x.1) Tryz.func50 (by kernel_rfl)
def OR (a0:Int):Option (Bool):=
 (some (if decide (97<=a0) then decide (a0<=122)else false)).bind fun b1=>
 some b1
def pO:BH:=mC [] 51 Tryz.f51 .n [.k (.int .u8)] [.k (.bool)] (fun x=>OR x.1) Tryz.func51 (by kernel_rfl)
def YZ:Option (Bool):=
 some true
def CW (a0:AJ) (acR:Int):Option ((Int)⊕(Unit⊕Bool)):=
 (if decide (acR<5) then
  (idx a0.Color.l acR).bind fun e11=>
  (idx a0.Color.l acR).bind fun e12=>
  (gd ((decide (e12<0))==false) (idx a0.Color.l acR)).bind fun e13=>
  (gd ((decide (e12<0))==false) (idx a0.Color.l acR)).bind fun e14=>
  (some (if decide (e12<0) then true else decide (9<e14))).bind fun b15=>
  (if b15 then
   some (.inr (.inr false))
  else
   some (.inl (Aj (acR+1))))
 else
  some (.inr (.inl ())))
def QF (a0:AJ):Option (Bool):=
 (some (if decide (a0.Generic<0) then true else decide (99<a0.Generic))).bind fun b1=>
 (some (if b1 then true else decide (a0.X<0))).bind fun b2=>
 (some (if b2 then true else decide (2<a0.X))).bind fun b3=>
 (if b3 then
  some false
 else
  jn (fun(v:Unit)=>YZ) (fun jJ5=>
  (iter (fun(v:Int)=>CW a0 v) FU (0:Int)).bind (Sum.elim (fun o0=>jJ5 ()) (fun o1=>some o1))))
def V1:BH:=mC [] 28 Tryz.f28 (.s .n (.s .n (.j Ho (.s .n (.l ⟨[1],[Ci 3],[[1]],[]⟩ [(1,Ho),(0,⟨[],[GE 2],[],[]⟩)] .n)) .n))) [.s 60] [.k (.bool)] (fun x=>QF x.1) Tryz.func28 (by kernel_rfl)
def Hv:Option ((List (List UInt8))):=
 some ([YO,VP]:List (List UInt8))
def QG:BH:=mC [] 100 Tryz.f100 .n [] [.k (.w_ 9)] (fun x=>Hv) Tryz.func100 (by kernel_rfl)
def bc:Option (Int):=
 some (-1:Int)
def Ey (a0:List (List UInt8)) (a1:List UInt8) (AT:Int):Option ((Int)⊕(Unit⊕Int)):=
 (if(decide (AT<(a0.length:Int))) then
  (idx a0 AT).bind fun e7=>
  (if e7==a1 then
   some (.inr (.inr AT))
  else
   some (.inl (Aj (AT+1))))
 else
  some (.inr (.inl ())))
def Je (a0:List (List UInt8)) (a1:List UInt8):Option (Int):=
 jn (fun(v:Unit)=>bc) (fun jJ1=>
 (iter (fun(v:Int)=>Ey a0 a1 v) FU (0:Int)).bind (Sum.elim (fun o0=>jJ1 ()) (fun o1=>some o1)))
def fX:BH:=mC [] 99 Tryz.f99 (.s .n (.j Ho (.s .n (.l ⟨[0,1],[Ci 5],[],[]⟩ [(1,Ho),(0,⟨[],[Ci 4],[],[]⟩)] .n)) .n)) [.k (.w_ 9), .k (.str)] [.k (.int .i64)] (fun x=>Je x.1 x.2.1) Tryz.func99 (by kernel_rfl)
def Fk:Option ((List (List UInt8))):=
 some ([OL,RO,VQ,YP,YQ,fC]:List (List UInt8))
def Kz:BH:=mC [] 101 Tryz.f101 .n [] [.k (.w_ 9)] (fun x=>Fk) Tryz.func101 (by kernel_rfl)
def kz (acQ:Int):Option (Bool):=
 some ((Int.tmod acQ (2:Int))==(1:Int))
def kA (a1:Int) (abk:Int) (adu:Int):Option ((Int×Int)⊕(Int)):=
 (if decide (adu<a1) then
  some (.inl ((Aj (Int.tdiv abk (2:Int))),(Aj (adu+1))))
 else
  some (.inr abk))
def H9 (a0:Int) (a1:Int):Option (Bool):=
 jn (fun(v:Int)=>kz v) (fun jJ2=>
 (iter (fun(v:Int×Int)=>kA a1 v.1 v.2) FU (a0,(0:Int))).bind (fun o0=>jJ2 o0))
def Y1:BH:=mC [] 53 Tryz.f53 (.s .n (.j ⟨[],[Ci 0],[],[]⟩ (.s .n (.l ⟨[1],[Ci 0,Ci 5],[],[]⟩ [(1,⟨[],[Ci 0],[],[]⟩)] .n)) .n)) [.k (.int .i64), .k (.int .i64)] [.k (.bool)] (fun x=>H9 x.1 x.2.1) Tryz.func53 (by kernel_rfl)
def Lu (a0:Int):Option (Bool):=
 (some (if decide (0<=a0) then decide (a0<=131071)else false)).bind fun b1=>
 some b1
def fY:BH:=mC [] 30 Tryz.f30 .n [.k (.int .i64)] [.k (.bool)] (fun x=>Lu x.1) Tryz.func30 (by kernel_rfl)
def Gd (a0:A4):Option (Bool):=
 some ((KG .i64 a0.acd.Types (1:Int)) != (0:Int))
def V2:BH:=mC [] 31 Tryz.f31 .n [.s 88] [.k (.bool)] (fun x=>Gd x.1) Tryz.func31 (by kernel_rfl)
def be:Option (Bool):=
 some true
def W3 (ahi:Int) (af0:Int) (afO:Int):Option ((Int×Int×Int)⊕(Unit⊕Bool)):=
 (if decide (afO<6) then
  (some (if((Int.tmod ahi (2:Int))==(1:Int)) then(Int.tmod af0 (2:Int))==(1:Int)else false)).bind fun b15=>
  (if b15 then
   some (.inr (.inr false))
  else
   some (.inl ((Aj (Int.tdiv ahi (2:Int))),(Aj (Int.tdiv af0 (2:Int))),(Aj (afO+1)))))
 else
  some (.inr (.inl ())))
def Dz (a0:Int) (a1:Int) (a2:Int):Option (Bool):=
 (some (if decide (a0<0) then true else decide (a2<a0))).bind fun b1=>
 (some (if b1 then true else decide (a1<0))).bind fun b2=>
 (some (if b2 then true else decide (a2<a1))).bind fun b3=>
 (if b3 then
  some false
 else
  jn (fun(v:Unit)=>be) (fun jJ5=>
  (iter (fun(v:Int×Int×Int)=>W3 v.1 v.2.1 v.2.2) FU (a0,a1,(0:Int))).bind (Sum.elim (fun o0=>jJ5 ()) (fun o1=>some o1))))
def fZ:BH:=mC [] 102 Tryz.f102 (.s .n (.s .n (.j Ho (.s .n (.l ⟨[],[Ci 0,Ci 1,Ci 7],[],[]⟩ [(1,Ho),(0,⟨[],[GE 6],[],[]⟩)] .n)) .n))) [.k (.int .i64), .k (.int .i64), .k (.int .i64)] [.k (.bool)] (fun x=>Dz x.1 x.2.1 x.2.2.1) Tryz.func102 (by kernel_rfl)
def GG (a0:Ag):Option (Bool):=
 (some (if decide (a0.Kind<0) then true else decide (3<a0.Kind))).bind fun b1=>
 (some (if b1 then true else decide (a0.N<0))).bind fun b2=>
 (some (if b2 then true else decide (1000000<a0.N))).bind fun b3=>
 (if b3 then
  some false
 else
  (some (if a0.Kind != 0 then true else a0.N==0)).bind fun b5=>
  some b5)
def f5:BH:=mC [] 103 Tryz.f103 .n [.s 54] [.k (.bool)] (fun x=>GG x.1) Tryz.func103 (by kernel_rfl)
def Ia (apU:BG):Option (BG):=
 some apU
def Gf (a0:BG) (jJ2:(BG)->Option (BG)) (ahB:Bool):Option (BG):=
 (if ahB then
  jJ2 ({{{a0 with Kind:=(0:Int)}with N:=(0:Int)}with M:=(0:Int)})
 else
  jJ2 ({a0 with Kind:=(0:Int)}))
def Ib (a0:BG) (jJ2:(BG)->Option (BG)) (aiS:Bool):Option (BG):=
 (if aiS then
  jJ2 ({{a0 with Kind:=(0:Int)}with Sub:=([]:List UInt8)})
 else if a0.Kind==11 then
  jJ2 ({{a0 with Kind:=(0:Int)}with Filter:=(⟨0,0,0,0,0,0,0,[],0,0,(⟨0,0⟩:Ag),(⟨0,0⟩:Ag),(⟨0,0⟩:Ag)⟩:Am)})
 else
  jn (fun(v:Bool)=>Gf a0 jJ2 v) (fun ab9=>
  (if a0.Kind==12 then
   ab9 (a0.Kind==12)
  else
   ab9 (a0.Kind==13))))
def Ic (a0:BG) (jJ2:(BG)->Option (BG)) (akx:Bool):Option (BG):=
 (if akx then
  jJ2 ({{a0 with Kind:=(0:Int)}with N:=(0:Int)})
 else
  jn (fun(v:Bool)=>Ib a0 jJ2 v) (fun jJ7=>
  (if a0.Kind==4 then
   jJ7 (a0.Kind==4)
  else
   jJ7 (a0.Kind==5))))
def Lv (a0:BG):Option (BG):=
 jn (fun(v:BG)=>Ia v) (fun jJ2=>
 jn (fun(v:Bool)=>Ic a0 jJ2 v) (fun jJ4=>
 (if a0.Kind==2 then
  jJ4 (a0.Kind==2)
 else if a0.Kind==3 then
  jJ4 (a0.Kind==3)
 else if a0.Kind==6 then
  jJ4 (a0.Kind==6)
 else if a0.Kind==7 then
  jJ4 (a0.Kind==7)
 else if a0.Kind==8 then
  jJ4 (a0.Kind==8)
 else
  jJ4 (a0.Kind==9))))
def kB:BH:=mC [] 116 Tryz.f116 (.s .n (.s .n (.s .n (.j ⟨[1,2],[],[[2]],[([1], .box [.v (.s 100)])]⟩ (.s .n (.j ⟨[1,2,7],[GE 8],[[1],[2]],[]⟩ .n (.i .n (.j ⟨[1,2,7],[GE 16],[[1],[2]],[]⟩ .n (.i .n (.s .n (.i .n (.j ⟨[1,2],[GE 24],[[1],[2]],[]⟩ .n .n)))))))) .n)))) [.s 100] [.s 100] (fun x=>Lv x.1) Tryz.func116 (by kernel_rfl)
def Ml (a0:Int):Option (Bool):=
 (some (if decide (1<=a0) then decide (a0<=63)else false)).bind fun b1=>
 (some (if b1 then(KG .i64 a0 (6:Int))==(0:Int)else false)).bind fun b2=>
 some b2
def gc:BH:=mC [] 117 Tryz.f117 .n [.k (.int .i64)] [.k (.bool)] (fun x=>Ml x.1) Tryz.func117 (by kernel_rfl)
def bg (a0:Int):Option (Bool):=
 (some (if decide (0<=a0) then decide (a0<=31)else false)).bind fun b1=>
 some b1
def tG:BH:=mC [] 176 Tryz.f176 .n [.k (.int .i64)] [.k (.bool)] (fun x=>bg x.1) Tryz.func176 (by kernel_rfl)
def Lw (a0:Int):Option ((List UInt8)):=
 (if a0==0 then
  some px
 else if a0==1 then
  some jW
 else if a0==2 then
  some xb
 else if a0==3 then
  some tz
 else if a0==4 then
  some fG
 else
  some ([]:List UInt8))
def V3:BH:=mC [] 177 Tryz.f177 .n [.k (.int .i64)] [.k (.str)] (fun x=>Lw x.1) Tryz.func177 (by kernel_rfl)
def Y2:Option ((List (List UInt8))):=
 some ([jX,py,pz,a6,fH,QC,ON,jY,a7,jZ,a8,j6,j7,fI,W1,a9,Se]:List (List UInt8))
def gf:BH:=mC [] 286 Tryz.f286 .n [] [.k (.w_ 9)] (fun x=>Y2) Tryz.func286 (by kernel_rfl)
def MT:Option ((List (List UInt8))):=
 some ([([]:List UInt8),RR,Lt,Jc,OO,OP]:List (List UInt8))
def Sf:BH:=mC [] 179 Tryz.f179 .n [] [.k (.w_ 9)] (fun x=>MT) Tryz.func179 (by kernel_rfl)
def OS:Option ((List (List UInt8))):=
 some ([([]:List UInt8),YT,VU]:List (List UInt8))
def V4:BH:=mC [] 180 Tryz.f180 .n [] [.k (.w_ 9)] (fun x=>OS) Tryz.func180 (by kernel_rfl)
def MU:Option ((List (List UInt8))):=
 some ([([]:List UInt8),fJ,YU]:List (List UInt8))
def Si:BH:=mC [] 181 Tryz.f181 .n [] [.k (.w_ 9)] (fun x=>MU) Tryz.func181 (by kernel_rfl)
def OT:Option ((List (List UInt8))):=
 some ([([]:List UInt8),NK,JP]:List (List UInt8))
def V5:BH:=mC [] 182 Tryz.f182 .n [] [.k (.w_ 9)] (fun x=>OT) Tryz.func182 (by kernel_rfl)
def kC (acQ:Int):Option (Bool):=
 some ((Int.tmod acQ (2:Int))==(1:Int))
def V6 (a1:Int) (abk:Int) (adu:Int):Option ((Int×Int)⊕(Int)):=
 (if decide (adu<a1) then
  some (.inl ((Aj (Int.tdiv abk (2:Int))),(Aj (adu+1))))
 else
  some (.inr abk))
def Ie (a0:Int) (a1:Int):Option (Bool):=
 jn (fun(v:Int)=>kC v) (fun jJ2=>
 (iter (fun(v:Int×Int)=>V6 a1 v.1 v.2) FU (a0,(0:Int))).bind (fun o0=>jJ2 o0))
def pP:BH:=mC [] 184 Tryz.f184 (.s .n (.j ⟨[],[Ci 0],[],[]⟩ (.s .n (.l ⟨[1],[Ci 0,Ci 5],[],[]⟩ [(1,⟨[],[Ci 0],[],[]⟩)] .n)) .n)) [.k (.int .i64), .k (.int .i64)] [.k (.bool)] (fun x=>Ie x.1 x.2.1) Tryz.func184 (by kernel_rfl)
def Y3:Option ((List (List UInt8))):=
 some ([([]:List UInt8),YV,YW,mT]:List (List UInt8))
def gg:BH:=mC [] 287 Tryz.f287 .n [] [.k (.w_ 9)] (fun x=>Y3) Tryz.func287 (by kernel_rfl)
def Fl (aiY:List UInt8):Option ((List UInt8)):=
 some aiY
def Iv (aep:Int) (adm:List UInt8):Option ((Int×(List UInt8))⊕((List UInt8))):=
 (if decide (0<aep) then
  (DG (∀ n∈([IntKind.u8.wrap (IntKind.u64.wrap ((48:Int)+(Int.tmod aep (10:Int))))]:List (Int)),0<=n/\n<256)).bind fun u11=>
  (cat (G4 ([IntKind.u8.wrap (IntKind.u64.wrap ((48:Int)+(Int.tmod aep (10:Int))))]:List (Int))) adm).bind fun s12=>
  some (.inl ((IntKind.u64.wrap (Int.tdiv aep (10:Int))),s12))
 else
  some (.inr adm))
def Hw (a0:Int):Option ((List UInt8)):=
 (DG (∀ n∈([IntKind.u8.wrap (IntKind.u64.wrap ((48:Int)+(Int.tmod a0 (10:Int))))]:List (Int)),0<=n/\n<256)).bind fun u1=>
 (iter (fun(v:Int×(List UInt8))=>Iv v.1 v.2) FU ((IntKind.u64.wrap (Int.tdiv a0 (10:Int))),(G4 ([IntKind.u8.wrap (IntKind.u64.wrap ((48:Int)+(Int.tmod a0 (10:Int))))]:List (Int))))).bind (fun o0=>Fl o0)
def bh (a0:Int) (r:(List UInt8)):Prop:=Cm Tryz.prog I0 188 [.c (.int .u64 a0)] (· =vS r)
theorem W4 {a0:Int} {r:(List UInt8)} (h:Hw a0=some r):bh a0 r:=by
 refine Cm.bo Mi Tryz.func188 rfl Tryz.ntmps188 [.tmp 2] fun _ _ _ _=>?_;unfold Hw at h;refine Gg [.a] (u [] []) (aN) ?_;obtain⟨u1,y0,h⟩:=bS h;refine Gg [.a,.a,.a,.a,.a,(.v (vS (G4 ([IntKind.u8.wrap (IntKind.u64.wrap ((48:Int)+(Int.tmod a0 (10:Int))))]:List (Int))))),.a] (u [] [(3,vS (G4 ([IntKind.u8.wrap (IntKind.u64.wrap ((48:Int)+(Int.tmod a0 (10:Int))))]:List (Int))))]) (aC (show (10:Int) ≠ 0 from(by decide))<|aC (show (Fs Tryz.prog 303=true/\Cb Tryz.prog 9=true)/\1=1/\HN (([IntKind.u8.wrap (IntKind.u64.wrap ((48:Int)+(Int.tmod a0 (10:Int))))]:List (Int)).flatMap (eI .u8))from⟨⟨by kernel_rfl,by kernel_rfl⟩,rfl,Jx (BK y0)⟩)<|aC (congrArg (fun z=>V.c (.str z)) (KY ([IntKind.u8.wrap (IntKind.u64.wrap ((48:Int)+(Int.tmod a0 (10:Int))))]:List (Int))))<|aN)<|Sj (X:=(List UInt8)) (fun v=>(sl 25 [(3,vS v)] [])) (fun v=>Fl v=some r) ?_ ?_
 ·refine Gg (nA 3) (u [] [(0,.c (.int .u64 (IntKind.u64.wrap (Int.tdiv a0 (10:Int)))))]) (aC (show (10:Int) ≠ 0 from(by decide))<|aN)<|hB ?_;obtain⟨d1,q0,h⟩:=bS h;refine It (fun(v:Int×(List UInt8))=>(sl 25 [(0,.c (.int .u64 v.1)),(3,vS v.2)] [])) q0 (wT) ?_;rintro⟨i0,k0⟩ z0 j0 t0;replace j0:Iv i0 k0=some z0:=j0;unfold Iv at j0;refine hS<|Gg [.a,.a] (u [] [(13,vB (decide (0<i0)))]) (aN)<|iC j0 (fun j0=>?_) (fun j0=>?_)
  ·refine hK<|Tn<|hS<|hB ?_;obtain⟨i1,x0,o0,p0,j0⟩:=bS2 j0;refine Ge [.a,.a,.a,.a,.a,(.v (vS (G4 ([IntKind.u8.wrap (IntKind.u64.wrap ((48:Int)+(Int.tmod i0 (10:Int))))]:List (Int))))),.a,(.v (vS o0)),.a] (uo [] [(3,vS o0),(16,.c (.int .u64 i0)),(17,.c (.int .u64 (Int.tmod i0 (10:Int)))),(18,.c (.int .u64 (IntKind.u64.wrap ((48:Int)+(Int.tmod i0 (10:Int)))))),(19,.c (.int .u8 (IntKind.u8.wrap (IntKind.u64.wrap ((48:Int)+(Int.tmod i0 (10:Int))))))),(20,vO [20]),(21,vS (G4 ([IntKind.u8.wrap (IntKind.u64.wrap ((48:Int)+(Int.tmod i0 (10:Int))))]:List (Int)))),(22,vS k0),(23,vS o0)] [.e (rw_ [20] 5 1 (eI .u8) ([IntKind.u8.wrap (IntKind.u64.wrap ((48:Int)+(Int.tmod i0 (10:Int))))]:List (Int)))]) (aC (show (10:Int) ≠ 0 from(by decide))<|aC (show (Fs Tryz.prog 303=true/\Cb Tryz.prog 9=true)/\1=1/\HN (([IntKind.u8.wrap (IntKind.u64.wrap ((48:Int)+(Int.tmod i0 (10:Int))))]:List (Int)).flatMap (eI .u8))from⟨⟨by kernel_rfl,by kernel_rfl⟩,rfl,Jx (BK x0)⟩)<|aC (congrArg (fun z=>V.c (.str z)) (KY ([IntKind.u8.wrap (IntKind.u64.wrap ((48:Int)+(Int.tmod i0 (10:Int))))]:List (Int))))<|aC (yd p0)<|aC (congrArg (fun z=>V.c (.str z)) (ye p0).symm)<|aN)<|qN<|Tn<|Ge (nA 3) (u [] [(0,.c (.int .u64 (IntKind.u64.wrap (Int.tdiv i0 (10:Int))))),(14,.c (.int .u64 i0)),(15,.c (.int .u64 (IntKind.u64.wrap (Int.tdiv i0 (10:Int)))))]) (aC (show (10:Int) ≠ 0 from(by decide))<|aN)<|Tn ⟨((IntKind.u64.wrap (Int.tdiv i0 (10:Int))),o0),(sI j0).symm,wT⟩
  refine hE<|Te ?_;obtain rfl:=t0 _ (sI j0).symm;refine Te<|qX<|Tn ⟨k0,h,wT⟩
 rintro m0 n0;replace n0:Fl m0=some r:=n0;unfold Fl at n0;exact Rg [.a,.a] (sl 25 [(2,vS m0)] []) (aN)<|hR<|bQ _ (congrArg vS (sI n0))def aeD:CE TE Tryz.prog I0:=⟨188,[.k (.int .u64)],[.k (.str)],fun x=>Hw x.1,fun x r h=>Aat (by kernel_rfl) (W4 (r:=r) h),[],fun h=>absurd rfl h,none,(fun _ h=>nomatch h),none,(fun _ _ h=>nomatch h)⟩
def RX (aiW:List UInt8):Option ((List UInt8)):=
 some aiW
def JQ (a0:List (List UInt8)) (Tp:Int) (ahH:List UInt8):Option (((List UInt8)×Int)⊕((List UInt8))):=
 (idx a0 Tp).bind fun e12=>
 (cat ahH e12).bind fun s13=>
 some (.inl (s13,(Aj (Tp+1))))
def RY (a0:List (List UInt8)) (a1:List UInt8) (ae_:List UInt8) (Tp:Int):Option (((List UInt8)×Int)⊕((List UInt8))):=
 (if(decide (Tp<(a0.length:Int))) then
  jn (fun(v:(List UInt8))=>JQ a0 Tp v) (fun ab9=>
  (if decide (0<Tp) then
   (cat ae_ a1).bind fun s15=>
   ab9 s15
  else
   ab9 ae_))
 else
  some (.inr ae_))
def OU (a0:List (List UInt8)) (a1:List UInt8):Option ((List UInt8)):=
 jn (fun(v:(List UInt8))=>RX v) (fun jJ2=>
 (iter (fun(v:(List UInt8)×Int)=>RY a0 a1 v.1 v.2) FU (([]:List UInt8),(0:Int))).bind (fun o0=>jJ2 o0))
def kD:BH:=mC [] 187 Tryz.f187 (.s .n (.s .n (.j ⟨[],[Md 5],[],[]⟩ (.s .n (.l ⟨[0,1],[Md 5,Ci 6],[],[]⟩ [(1,⟨[],[Md 5],[],[]⟩)] (.s .n (.s (.j ⟨[0,1,6],[Md 5],[],[]⟩ .n .n) .n)))) .n))) [.k (.w_ 9), .k (.str)] [.k (.str)] (fun x=>OU x.1 x.2.1) Tryz.func187 (by kernel_rfl)
def Lx (a0:Int):Option ((List UInt8)):=
 (if a0==1 then
  some j8
 else if a0==2 then
  some j9
 else if a0==3 then
  some tA
 else if a0==4 then
  some fL
 else if a0==5 then
  some kf
 else if a0==6 then
  some pG
 else if a0==7 then
  some pH
 else if a0==8 then
  some pI
 else if a0==9 then
  some pJ
 else if a0==10 then
  some kg
 else if a0==11 then
  some xf
 else if a0==12 then
  some pK
 else if a0==13 then
  some pL
 else if a0==14 then
  some kh
 else
  some ([]:List UInt8))
def V7:BH:=mC [] 104 Tryz.f104 .n [.k (.int .i64)] [.k (.str)] (fun x=>Lx x.1) Tryz.func104 (by kernel_rfl)
def Hx (a0:Int):Option (Bool):=
 (some (if a0==8 then true else a0==9)).bind fun b1=>
 (some (if b1 then true else a0==10)).bind fun b2=>
 (some (if b2 then true else a0==11)).bind fun b3=>
 (some (if b3 then true else a0==12)).bind fun b4=>
 (some (if b4 then true else a0==13)).bind fun b5=>
 some b5
def OV:BH:=mC [] 105 Tryz.f105 .n [.k (.int .i64)] [.k (.bool)] (fun x=>Hx x.1) Tryz.func105 (by kernel_rfl)
def Mm (a0:Bk):Option (Bool):=
 (some (if a0.F_ != 0 then true else a0.q_ != 0)).bind fun b1=>
 (if b1 then
  some false
 else
  (some (if a0.Do==2 then true else a0.Do==4)).bind fun b3=>
  (if b3 then
   (some (if decide (1<=a0.N) then decide (a0.N<=99)else false)).bind fun b5=>
   some b5
  else
   some (a0.N==0)))
def gi:BH:=mC [] 108 Tryz.f108 .n [.s 68] [.k (.bool)] (fun x=>Mm x.1) Tryz.func108 (by kernel_rfl)
def Ly (a0:Int):Option ((List UInt8)):=
 (some (if decide (a0<1) then true else decide (26<a0))).bind fun b1=>
 (if b1 then
  some ([]:List UInt8)
 else
  (idx ([VV,RS,fM,fN,RU,fO,fP,mW,YX,mY,fQ,VW,mZ,fR,RV,fS,VX,MS,fT,fU,VY,VZ,fV,m6,V0,YY]:List (List UInt8)) (Aj (a0 - 1))).bind fun e3=>
  (idx ([VV,RS,fM,fN,RU,fO,fP,mW,YX,mY,fQ,VW,mZ,fR,RV,fS,VX,MS,fT,fU,VY,VZ,fV,m6,V0,YY]:List (List UInt8)) (Aj (a0 - 1))).bind fun e4=>
  some e4)
def kE:BH:=mC [] 165 Tryz.f165 .n [.k (.int .i64)] [.k (.str)] (fun x=>Ly x.1) Tryz.func165 (by kernel_rfl)
def OW (ahA:Bool):Option ((List UInt8)):=
 (if ahA then
  some ([]:List UInt8)
 else
  some Aa4)
def Lz (a0:Int) (aiT:Bool):Option ((List UInt8)):=
 (if aiT then
  some xg
 else if a0==12 then
  some xh
 else if a0==13 then
  some Aa3
 else if a0==14 then
  some Ade
 else if a0==18 then
  some xi
 else if a0==20 then
  some Adf
 else if a0==21 then
  some Adg
 else
  jn (fun(v:Bool)=>OW v) (fun aeL=>
  (if a0==23 then
   aeL (a0==23)
  else
   aeL (a0==24))))
def LA (a0:Int) (aky:Bool):Option ((List UInt8)):=
 (if aky then
  some Add
 else if a0==3 then
  some Aa2
 else
  jn (fun(v:Bool)=>Lz a0 v) (fun jJ6=>
  (if a0==10 then
   jJ6 (a0==10)
  else
   jJ6 (a0==11))))
def OX (a0:Int):Option ((List UInt8)):=
 jn (fun(v:Bool)=>LA a0 v) (fun jJ2=>
 (if a0==2 then
  jJ2 (a0==2)
 else if a0==8 then
  jJ2 (a0==8)
 else if a0==9 then
  jJ2 (a0==9)
 else if a0==15 then
  jJ2 (a0==15)
 else if a0==16 then
  jJ2 (a0==16)
 else if a0==17 then
  jJ2 (a0==17)
 else
  jJ2 (a0==25)))
def kF:BH:=mC [] 282 Tryz.f282 (.s .n (.s (.s .n (.j ⟨[3],[GE 4],[],[]⟩ .n (.i .n (.s .n (.i .n (.j ⟨[3],[GE 14],[],[]⟩ .n (.i .n (.s .n (.i .n (.s .n (.i .n (.s .n (.i .n (.s .n (.i .n (.s .n (.i .n (.s .n (.i .n (.j ⟨[],[GE 29],[],[]⟩ .n .n)))))))))))))))))))) .n)) [.k (.int .i64)] [.k (.str)] (fun x=>OX x.1) Tryz.func282 (by kernel_rfl)
def JR (a0:Int):Option (Bool):=
 (some (if a0==3 then true else a0==8)).bind fun b1=>
 some b1
def V8:BH:=mC [] 283 Tryz.f283 .n [.k (.int .i64)] [.k (.bool)] (fun x=>JR x.1) Tryz.func283 (by kernel_rfl)
def LC (a0:Int):Option ((List UInt8)):=
 (if a0==0 then
  some tB
 else if a0==1 then
  some pN
 else if a0==2 then
  some kj
 else
  some ([]:List UInt8))
def V9:BH:=mC [] 168 Tryz.f168 .n [.k (.int .i64)] [.k (.str)] (fun x=>LC x.1) Tryz.func168 (by kernel_rfl)
def gn (apQ:AJ):Option (AJ):=
 some apQ
def bi (a0:A6 (Int)) (aal:Int) (ahd:AJ):Option ((Int×AJ)⊕(AJ)):=
 (if decide (aal<5) then
  (idx a0.l (Aj (aal+1))).bind fun e13=>
  (idx a0.l (Aj (aal+1))).bind fun e14=>
  (idx ahd.Color.l aal).bind fun e15=>
  (idx (ahd.Color.l) aal).bind fun e16=>
  some (.inl ((Aj (aal+1)),({ahd with Color:=ahd.Color.set (aal).toNat e14})))
 else
  some (.inr ahd))
def Wa (a0:A6 (Int)):Option (AJ):=
 (idx a0.l (0:Int)).bind fun e1=>
 (idx a0.l (0:Int)).bind fun e2=>
 jn (fun(v:AJ)=>gn v) (fun jJ4=>
 (iter (fun(v:Int×AJ)=>bi a0 v.1 v.2) FU ((0:Int),(⟨e2,0,(⟨0,0,0,0,0⟩:A5 (Int))⟩:AJ))).bind (fun o0=>jJ4 o0))
def kG:BH:=mC [] 285 Tryz.f285 (.s .n (.s .n (.j ⟨[2,3],[],[[2]],[([3], .box [.v (.s 60)])]⟩ (.s .n (.l ⟨[1,2,3],[Ci 4],[[1],[2]],[([3], .box [.v (.s 60)])]⟩ [(1,⟨[2,3],[],[[2]],[([3], .box [.v (.s 60)])]⟩)] .n)) .n))) [.s 50] [.s 60] (fun x=>Wa x.1) Tryz.func285 (by kernel_rfl)
def Wb (a0:A4):Option (Bool):=
 (some (if a0.acd.Types==2 then true else a0.acd.Types==4)).bind fun b1=>
 some b1
def kH:BH:=mC [] 33 Tryz.f33 .n [.s 88] [.k (.bool)] (fun x=>Wb x.1) Tryz.func33 (by kernel_rfl)
def RZ:Option (Int):=
 some (-1:Int)
def FM (a0:List (A4)) (a1:List UInt8) (AT:Int):Option ((Int)⊕(Unit⊕Int)):=
 (if(decide (AT<(a0.length:Int))) then
  (idx a0 AT).bind fun e7=>
  (if e7.Name==a1 then
   some (.inr (.inr AT))
  else
   some (.inl (Aj (AT+1))))
 else
  some (.inr (.inl ())))
def OY (a0:List (A4)) (a1:List UInt8):Option (Int):=
 jn (fun(v:Unit)=>RZ) (fun jJ1=>
 (iter (fun(v:Int)=>FM a0 a1 v) FU (0:Int)).bind (Sum.elim (fun o0=>jJ1 ()) (fun o1=>some o1)))
def kJ:BH:=mC [] 16 Tryz.f16 (.s .n (.j Ho (.s .n (.l ⟨[0,1],[Ci 5],[],[]⟩ [(1,Ho),(0,⟨[],[Ci 4],[],[]⟩)] .n)) .n)) [.k (.w_ 88), .k (.str)] [.k (.int .i64)] (fun x=>OY x.1 x.2.1) Tryz.func16 (by kernel_rfl)
def OZ:Option (Bool):=
 some false
def Ez (a0:List (A4)) (a1:List UInt8) (AT:Int):Option ((Int)⊕(Unit⊕Bool)):=
 (if(decide (AT<(a0.length:Int))) then
  (idx a0 AT).bind fun e7=>
  (gd ((e7.Name==a1)==true) (idx a0 AT)).bind fun e8=>
  (some (if e7.Name==a1 then e8.Token else false)).bind fun b9=>
  (if b9 then
   some (.inr (.inr true))
  else
   some (.inl (Aj (AT+1))))
 else
  some (.inr (.inl ())))
def Mn (a0:List (A4)) (a1:List UInt8):Option (Bool):=
 jn (fun(v:Unit)=>OZ) (fun jJ1=>
 (iter (fun(v:Int)=>Ez a0 a1 v) FU (0:Int)).bind (Sum.elim (fun o0=>jJ1 ()) (fun o1=>some o1)))
def gp:BH:=mC [] 34 Tryz.f34 (.s .n (.j Ho (.s .n (.l ⟨[0,1],[Ci 5],[],[]⟩ [(1,Ho),(0,⟨[],[GE 4],[],[]⟩)] .n)) .n)) [.k (.w_ 88), .k (.str)] [.k (.bool)] (fun x=>Mn x.1 x.2.1) Tryz.func34 (by kernel_rfl)
def Ds (a0:Int) (a1:Int) (a2:Int):Option (Bool):=
 (some (if decide (a1<=a0) then decide (a0<=a2)else false)).bind fun b1=>
 some b1
def LD:BH:=mC [] 18 Tryz.f18 .n [.k (.int .i64), .k (.int .i64), .k (.int .i64)] [.k (.bool)] (fun x=>Ds x.1 x.2.1 x.2.2.1) Tryz.func18 (by kernel_rfl)
def O0:Option (Bool):=
 some true
def O1 (a0:A6 (Int)) (D_:Int):Option ((Int)⊕(Unit⊕Bool)):=
 (if decide (D_<6) then
  (idx a0.l D_).bind fun e7=>
  (idx a0.l D_).bind fun e8=>
  (gd ((decide (e8<0))==false) (idx a0.l D_)).bind fun e9=>
  (gd ((decide (e8<0))==false) (idx a0.l D_)).bind fun e10=>
  (some (if decide (e8<0) then true else decide (1000000<e10))).bind fun b11=>
  (if b11 then
   some (.inr (.inr false))
  else
   some (.inl (Aj (D_+1))))
 else
  some (.inr (.inl ())))
def Mo (a0:A6 (Int)):Option (Bool):=
 jn (fun(v:Unit)=>O0) (fun jJ1=>
 (iter (fun(v:Int)=>O1 a0 v) FU (0:Int)).bind (Sum.elim (fun o0=>jJ1 ()) (fun o1=>some o1)))
def gq:BH:=mC [] 35 Tryz.f35 (.s .n (.j Ho (.s .n (.l ⟨[1],[Ci 3],[[1]],[]⟩ [(1,Ho),(0,⟨[],[GE 2],[],[]⟩)] .n)) .n)) [.s 50] [.k (.bool)] (fun x=>Mo x.1) Tryz.func35 (by kernel_rfl)
def bj:Option (Int):=
 some (-1:Int)
def Ct (a0:AF) (a1:Int) (AT:Int):Option ((Int)⊕(Unit⊕Int)):=
 (if(decide (AT<(a0.b_.length:Int))) then
  (idx a0.b_ AT).bind fun e7=>
  (if e7.Id==a1 then
   some (.inr (.inr AT))
  else
   some (.inl (Aj (AT+1))))
 else
  some (.inr (.inl ())))
def Mp (a0:AF) (a1:Int):Option (Int):=
 jn (fun(v:Unit)=>bj) (fun jJ1=>
 (iter (fun(v:Int)=>Ct a0 a1 v) FU (0:Int)).bind (Sum.elim (fun o0=>jJ1 ()) (fun o1=>some o1)))
def gu:BH:=mC [] 173 Tryz.f173 (.s .n (.j Ho (.s .n (.l ⟨[1,2],[Ci 5],[[2]],[]⟩ [(1,Ho),(0,⟨[],[Ci 4],[],[]⟩)] .n)) .n)) [.s 31, .k (.int .i64)] [.k (.int .i64)] (fun x=>Mp x.1 x.2.1) Tryz.func173 (by kernel_rfl)
def bk (aja:Int):Option (Int):=
 some aja
def Iw (Tp:Int) (ahP:Int):Option ((Int×Int)⊕(Int)):=
 some (.inl (ahP,(Aj (Tp+1))))
def EA (a0:List (Int)) (a1:Int) (afh:Int) (Tp:Int):Option ((Int×Int)⊕(Int)):=
 (if(decide (Tp<(a0.length:Int))) then
  jn (fun(v:Int)=>Iw Tp v) (fun ab9=>
  (idx a0 Tp).bind fun e12=>
  (if e12==a1 then
   ab9 (Aj (afh+1))
  else
   ab9 afh))
 else
  some (.inr afh))
def Jf (a0:List (Int)) (a1:Int):Option (Int):=
 jn (fun(v:Int)=>bk v) (fun jJ2=>
 (iter (fun(v:Int×Int)=>EA a0 a1 v.1 v.2) FU ((0:Int),(0:Int))).bind (fun o0=>jJ2 o0))
def R1:BH:=mC [] 61 Tryz.f61 (.s .n (.s .n (.j ⟨[],[Ci 5],[],[]⟩ (.s .n (.l ⟨[0,1],[Ci 5,Ci 6],[],[]⟩ [(1,⟨[],[Ci 5],[],[]⟩)] (.s .n (.j ⟨[0,1,6],[Ci 5],[],[]⟩ .n .n)))) .n))) [.k (.w_ 3), .k (.int .i64)] [.k (.int .i64)] (fun x=>Jf x.1 x.2.1) Tryz.func61 (by kernel_rfl)
def Y4:Option (Bool):=
 some true
def Y5 (a0:A3 (Int)) (D_:Int):Option ((Int)⊕(Unit⊕Bool)):=
 (if decide (D_<3) then
  (idx a0.l D_).bind fun e7=>
  (idx a0.l D_).bind fun e8=>
  (gd ((decide (e8<0))==false) (idx a0.l D_)).bind fun e9=>
  (gd ((decide (e8<0))==false) (idx a0.l D_)).bind fun e10=>
  (some (if decide (e8<0) then true else decide (1000000<e10))).bind fun b11=>
  (if b11 then
   some (.inr (.inr false))
  else
   some (.inl (Aj (D_+1))))
 else
  some (.inr (.inl ())))
def bl (a0:A3 (Int)):Option (Bool):=
 jn (fun(v:Unit)=>Y4) (fun jJ1=>
 (iter (fun(v:Int)=>Y5 a0 v) FU (0:Int)).bind (Sum.elim (fun o0=>jJ1 ()) (fun o1=>some o1)))
def tH:BH:=mC [] 62 Tryz.f62 (.s .n (.j Ho (.s .n (.l ⟨[1],[Ci 3],[[1]],[]⟩ [(1,Ho),(0,⟨[],[GE 2],[],[]⟩)] .n)) .n)) [.s 72] [.k (.bool)] (fun x=>bl x.1) Tryz.func62 (by kernel_rfl)
def Wc (a0:Ba):Option (Ba):=
 some ({{{a0 with adI:=(-1:Int)}with aeE:=false}with adH:=(0:Int)})
def kK:BH:=mC [] 63 Tryz.f63 .n [.s 94] [.s 94] (fun x=>Wc x.1) Tryz.func63 (by kernel_rfl)
def QH (a0:Ba):Option (Ba):=
 some ({{{a0 with adG:=(0:Int)}with afB:=false}with adF:=(0:Int)})
def gw:BH:=mC [] 64 Tryz.f64 .n [.s 94] [.s 94] (fun x=>QH x.1) Tryz.func64 (by kernel_rfl)
def MV (ai7:Int):Option (Int):=
 some ai7
def Hy (Tp:Int) (ahO:Int):Option ((Int×Int)⊕(Int)):=
 some (.inl (ahO,(Aj (Tp+1))))
def MW (a0:AF) (a1:Int) (afd:Int) (Tp:Int):Option ((Int×Int)⊕(Int)):=
 (if(decide (Tp<(a0.Stack.length:Int))) then
  jn (fun(v:Int)=>Hy Tp v) (fun ab9=>
  (idx a0.Stack Tp).bind fun e12=>
  (gd ((e12.Kind==1)==true) (idx a0.Stack Tp)).bind fun e13=>
  (some (if e12.Kind==1 then e13.Id==a1 else false)).bind fun b14=>
  (if b14 then
   ab9 (Aj (afd+1))
  else
   ab9 afd))
 else
  some (.inr afd))
def Hz (a0:AF) (a1:Int):Option (Int):=
 jn (fun(v:Int)=>MV v) (fun jJ2=>
 (iter (fun(v:Int×Int)=>MW a0 a1 v.1 v.2) FU ((0:Int),(0:Int))).bind (fun o0=>jJ2 o0))
def bm:BH:=mC [] 65 Tryz.f65 (.s .n (.s .n (.j ⟨[],[Ci 5],[],[]⟩ (.s .n (.l ⟨[1,2],[Ci 5,Ci 6],[[2]],[]⟩ [(1,⟨[],[Ci 5],[],[]⟩)] (.s .n (.j ⟨[1,2,6],[Ci 5],[[2]],[]⟩ .n .n)))) .n))) [.s 31, .k (.int .i64)] [.k (.int .i64)] (fun x=>Hz x.1 x.2.1) Tryz.func65 (by kernel_rfl)
def FN (a0:List (Int)):Option ((List (Int))):=
 (app 8 ([]:List (Int)) a0).bind fun l1=>
 some l1
def kL:BH:=mX [] 113 Tryz.f113 .n [[1]] [.k (.w_ 3)] [.k (.w_ 3)] (fun x=>FN x.1) Tryz.func113 (by kernel_rfl)
def Sk:Option (Bool):=
 some true
def Sl (a0:List (BG)) (a1:List (BG)) (Th:Int):Option ((Int)⊕(Unit⊕Bool)):=
 (if(decide (Th<(a0.length:Int))) then
  (idx a0 Th).bind fun e8=>
  (idx a1 Th).bind fun e9=>
  (if !(e8==e9) then
   some (.inr (.inr false))
  else
   some (.inl (Aj (Th+1))))
 else
  some (.inr (.inl ())))
def EB (a0:List (BG)) (a1:List (BG)):Option (Bool):=
 (if((a0.length:Int) != (a1.length:Int)) then
  some false
 else
  jn (fun(v:Unit)=>Sk) (fun jJ2=>
  (iter (fun(v:Int)=>Sl a0 a1 v) FU (0:Int)).bind (Sum.elim (fun o0=>jJ2 ()) (fun o1=>some o1))))
def LE:BH:=mC [] 114 Tryz.f114 (.s .n (.s .n (.j Ho (.s .n (.l ⟨[0,1],[Ci 5],[],[]⟩ [(1,Ho),(0,⟨[],[GE 4],[],[]⟩)] .n)) .n))) [.k (.w_ 100), .k (.w_ 100)] [.k (.bool)] (fun x=>EB x.1 x.2.1) Tryz.func114 (by kernel_rfl)
def pQ:Option (Bool):=
 some true
def Y6 (a0:List (Int)) (D_:Int):Option ((Int)⊕(Unit⊕Bool)):=
 (if(decide (D_<(a0.length:Int))) then
  (idx a0 (Aj (D_ - 1))).bind fun e7=>
  (idx a0 D_).bind fun e8=>
  (if decide (e8<=e7) then
   some (.inr (.inr false))
  else
   some (.inl (Aj (D_+1))))
 else
  some (.inr (.inl ())))
def Wd (a0:List (Int)):Option (Bool):=
 jn (fun(v:Unit)=>pQ) (fun jJ1=>
 (iter (fun(v:Int)=>Y6 a0 v) FU (1:Int)).bind (Sum.elim (fun o0=>jJ1 ()) (fun o1=>some o1)))
def tI:BH:=mC [] 40 Tryz.f40 (.s .n (.j Ho (.s .n (.l ⟨[0],[Ci 3],[],[]⟩ [(1,Ho),(0,⟨[],[GE 2],[],[]⟩)] .n)) .n)) [.k (.w_ 3)] [.k (.bool)] (fun x=>Wd x.1) Tryz.func40 (by kernel_rfl)
def JS (a0:AF) (a1:Int):Option (Bool):=
 (some (if a0.Step==3 then true else a0.Step==8)).bind fun b1=>
 (some (if a1==a0.acq then b1 else false)).bind fun b2=>
 (some (if b2 then(a0.Stack.length:Int)==0 else false)).bind fun b3=>
 some b3
def bn:BH:=mC [] 6 Tryz.f6 .n [.s 31, .k (.int .i64)] [.k (.bool)] (fun x=>JS x.1 x.2.1) Tryz.func6 (by kernel_rfl)
def We (a0:AF) (a1:Int):Option (Bool):=
 (some (if a0.Step==3 then true else a0.Step==8)).bind fun b1=>
 (some (if a1==a0.acq then b1 else false)).bind fun b2=>
 (some (if b2 then(a0.Stack.length:Int)==0 else false)).bind fun b3=>
 some b3
def kM:BH:=mC [] 7 Tryz.f7 .n [.s 31, .k (.int .i64)] [.k (.bool)] (fun x=>We x.1 x.2.1) Tryz.func7 (by kernel_rfl)
end Go.PL
