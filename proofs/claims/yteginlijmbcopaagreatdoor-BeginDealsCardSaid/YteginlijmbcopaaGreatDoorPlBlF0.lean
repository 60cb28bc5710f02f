/- Functions of the program, as partial functions in Lean, with proofs. -/
import Derived.Test.YteginlijmbcopaaGreatDoorPlBlB
namespace Go.PL
open Go Go.RowKit Go.Proofs
set_option maxRecDepth 100000
set_option linter.all false
set_option maxHeartbeats 4000000
attribute [local irreducible] Aq Cr Cc
def RX (a0:Int):Option (Bool):=
 (some (if decide (97<=a0) then decide (a0<=122)else false)).bind fun b1=>
 some b1
def vK:A9:=mC [] 159 Tryz.f159 .n [.k (.int .u8)] [.k (.bool)] (fun x=>RX x.1) Tryz.func159 (by kernel_rfl)
def fD:Option (Bool):=
 some true
def DT (a0:AS) (ahR:Int):Option ((Int)⊕(Unit⊕Bool)):=
 (if decide (ahR<5) then
  (idx a0.Color.l ahR).bind fun e11=>
  (idx a0.Color.l ahR).bind fun e12=>
  (gd ((decide (e12<0))==false) (idx a0.Color.l ahR)).bind fun e13=>
  (gd ((decide (e12<0))==false) (idx a0.Color.l ahR)).bind fun e14=>
  (some (if decide (e12<0) then true else decide (9<e14))).bind fun b15=>
  (if b15 then
   some (.inr (.inr false))
  else
   some (.inl (Ab (ahR+1))))
 else
  some (.inr (.inl ())))
def Uo (a0:AS):Option (Bool):=
 (some (if decide (a0.Generic<0) then true else decide (99<a0.Generic))).bind fun b1=>
 (some (if b1 then true else decide (a0.X<0))).bind fun b2=>
 (some (if b2 then true else decide (2<a0.X))).bind fun b3=>
 (if b3 then
  some false
 else
  jn (fun(v:Unit)=>fD) (fun jJ5=>
  (iter (fun(v:Int)=>DT a0 v) FU (0:Int)).bind (Sum.elim (fun o0=>jJ5 ()) (fun o1=>some o1))))
def Zt:A9:=mC [] 106 Tryz.f106 (.s .n (.s .n (.j EN (.s .n (.l ⟨[1],[A0 3],[[1]],[]⟩ [(1,EN),(0,⟨[],[EO 2],[],[]⟩)] .n)) .n))) [.s 99] [.k (.bool)] (fun x=>Uo x.1) Tryz.func106 (by kernel_rfl)
def JQ:Option ((List (List UInt8))):=
 some ([fo,Zi]:List (List UInt8))
def Up:A9:=mC [] 213 Tryz.f213 .n [] [.k (.u_ 9)] (fun x=>JQ) Tryz.func213 (by kernel_rfl)
def i8:Option (Int):=
 some (-1:Int)
def Gs (a0:List (List UInt8)) (a1:List UInt8) (F_:Int):Option ((Int)⊕(Unit⊕Int)):=
 (if(decide (F_<(a0.length:Int))) then
  (idx a0 F_).bind fun e7=>
  (if e7==a1 then
   some (.inr (.inr F_))
  else
   some (.inl (Ab (F_+1))))
 else
  some (.inr (.inl ())))
def LW (a0:List (List UInt8)) (a1:List UInt8):Option (Int):=
 jn (fun(v:Unit)=>i8) (fun jJ1=>
 (iter (fun(v:Int)=>Gs a0 a1 v) FU (0:Int)).bind (Sum.elim (fun o0=>jJ1 ()) (fun o1=>some o1)))
def mR:A9:=mC [] 212 Tryz.f212 (.s .n (.j EN (.s .n (.l ⟨[0,1],[A0 5],[],[]⟩ [(1,EN),(0,⟨[],[A0 4],[],[]⟩)] .n)) .n)) [.k (.u_ 9), .k (.str)] [.k (.int .i64)] (fun x=>LW x.1 x.2.1) Tryz.func212 (by kernel_rfl)
def Hz:Option ((List (List UInt8))):=
 some ([RR,VJ,Zj,fq,ft,mu]:List (List UInt8))
def Na:A9:=mC [] 214 Tryz.f214 .n [] [.k (.u_ 9)] (fun x=>Hz) Tryz.func214 (by kernel_rfl)
def qK (ahM:Int):Option (Bool):=
 some ((Int.tmod ahM (2:Int))==(1:Int))
def qL (a1:Int) (adY:Int) (ajw:Int):Option ((Int×Int)⊕(Int)):=
 (if decide (ajw<a1) then
  some (.inl ((Ab (Int.tdiv adY (2:Int))),(Ab (ajw+1))))
 else
  some (.inr adY))
def Kx (a0:Int) (a1:Int):Option (Bool):=
 jn (fun(v:Int)=>qK v) (fun jJ2=>
 (iter (fun(v:Int×Int)=>qL a1 v.1 v.2) FU (a0,(0:Int))).bind (fun o0=>jJ2 o0))
def fE:A9:=mC [] 161 Tryz.f161 (.s .n (.j ⟨[],[A0 0],[],[]⟩ (.s .n (.l ⟨[1],[A0 0,A0 5],[],[]⟩ [(1,⟨[],[A0 0],[],[]⟩)] .n)) .n)) [.k (.int .i64), .k (.int .i64)] [.k (.bool)] (fun x=>Kx x.1 x.2.1) Tryz.func161 (by kernel_rfl)
def Oa (a0:Int):Option (Bool):=
 (some (if decide (0<=a0) then decide (a0<=131071)else false)).bind fun b1=>
 some b1
def mS:A9:=mC [] 108 Tryz.f108 .n [.k (.int .i64)] [.k (.bool)] (fun x=>Oa x.1) Tryz.func108 (by kernel_rfl)
def IF (a0:AN):Option (Bool):=
 some ((J9 .i64 a0.aea.Types (1:Int)) != (0:Int))
def Zu:A9:=mC [] 109 Tryz.f109 .n [.s 102] [.k (.bool)] (fun x=>IF x.1) Tryz.func109 (by kernel_rfl)
def ja:Option (Bool):=
 some true
def b0 (asl:Int) (apw:Int) (acn:Int):Option ((Int×Int×Int)⊕(Unit⊕Bool)):=
 (if decide (acn<6) then
  (some (if((Int.tmod asl (2:Int))==(1:Int)) then(Int.tmod apw (2:Int))==(1:Int)else false)).bind fun b15=>
  (if b15 then
   some (.inr (.inr false))
  else
   some (.inl ((Ab (Int.tdiv asl (2:Int))),(Ab (Int.tdiv apw (2:Int))),(Ab (acn+1)))))
 else
  some (.inr (.inl ())))
def ES (a0:Int) (a1:Int) (a2:Int):Option (Bool):=
 (some (if decide (a0<0) then true else decide (a2<a0))).bind fun b1=>
 (some (if b1 then true else decide (a1<0))).bind fun b2=>
 (some (if b2 then true else decide (a2<a1))).bind fun b3=>
 (if b3 then
  some false
 else
  jn (fun(v:Unit)=>ja) (fun jJ5=>
  (iter (fun(v:Int×Int×Int)=>b0 v.1 v.2.1 v.2.2) FU (a0,a1,(0:Int))).bind (Sum.elim (fun o0=>jJ5 ()) (fun o1=>some o1))))
def mT:A9:=mC [] 183 Tryz.f183 (.s .n (.s .n (.j EN (.s .n (.l ⟨[],[A0 0,A0 1,A0 7],[],[]⟩ [(1,EN),(0,⟨[],[EO 6],[],[]⟩)] .n)) .n))) [.k (.int .i64), .k (.int .i64), .k (.int .i64)] [.k (.bool)] (fun x=>ES x.1 x.2.1 x.2.2.1) Tryz.func183 (by kernel_rfl)
def I9 (a0:As):Option (Bool):=
 (some (if decide (a0.Kind<0) then true else decide (3<a0.Kind))).bind fun b1=>
 (some (if b1 then true else decide (a0.N<0))).bind fun b2=>
 (some (if b2 then true else decide (1000000<a0.N))).bind fun b3=>
 (if b3 then
  some false
 else
  (some (if a0.Kind != 0 then true else a0.N==0)).bind fun b5=>
  some b5)
def mU:A9:=mC [] 184 Tryz.f184 .n [.s 108] [.k (.bool)] (fun x=>I9 x.1) Tryz.func184 (by kernel_rfl)
def Ky (aFE:BB):Option (BB):=
 some aFE
def IG (a0:BB) (jJ2:(BB)->Option (BB)) (asL:Bool):Option (BB):=
 (if asL then
  jJ2 ({{{a0 with Kind:=(0:Int)}with N:=(0:Int)}with M:=(0:Int)})
 else
  jJ2 ({a0 with Kind:=(0:Int)}))
def Kz (a0:BB) (jJ2:(BB)->Option (BB)) (auX:Bool):Option (BB):=
 (if auX then
  jJ2 ({{a0 with Kind:=(0:Int)}with Sub:=([]:List UInt8)})
 else if a0.Kind==11 then
  jJ2 ({{a0 with Kind:=(0:Int)}with Filter:=(⟨0,0,0,0,0,0,0,[],0,0,(⟨0,0⟩:As),(⟨0,0⟩:As),(⟨0,0⟩:As)⟩:Av)})
 else
  jn (fun(v:Bool)=>IG a0 jJ2 v) (fun ad1=>
  (if a0.Kind==12 then
   ad1 (a0.Kind==12)
  else
   ad1 (a0.Kind==13))))
def KA (a0:BB) (jJ2:(BB)->Option (BB)) (ald:Bool):Option (BB):=
 (if ald then
  jJ2 ({{a0 with Kind:=(0:Int)}with N:=(0:Int)})
 else
  jn (fun(v:Bool)=>Kz a0 jJ2 v) (fun jJ7=>
  (if a0.Kind==4 then
   jJ7 (a0.Kind==4)
  else
   jJ7 (a0.Kind==5))))
def Ob (a0:BB):Option (BB):=
 jn (fun(v:BB)=>Ky v) (fun jJ2=>
 jn (fun(v:Bool)=>KA a0 jJ2 v) (fun jJ4=>
 (if a0.Kind==2 then
  jJ4 (a0.Kind==2)
 else if a0.Kind==3 then
  jJ4 (a0.Kind==3)
 else if a0.Kind==6 then
  jJ4 (a0.Kind==6)
 else if a0.Kind==7 then
  jJ4 (a0.Kind==7)
 else if a0.Kind==8 then
  jJ4 (a0.Kind==8)
 else
  jJ4 (a0.Kind==9))))
def qM:A9:=mC [] 193 Tryz.f193 (.s .n (.s .n (.s .n (.j ⟨[1,2],[],[[2]],[([1], .box [.v (.s 148)])]⟩ (.s .n (.j ⟨[1,2,7],[EO 8],[[1],[2]],[]⟩ .n (.i .n (.j ⟨[1,2,7],[EO 16],[[1],[2]],[]⟩ .n (.i .n (.s .n (.i .n (.j ⟨[1,2],[EO 24],[[1],[2]],[]⟩ .n .n)))))))) .n)))) [.s 148] [.s 148] (fun x=>Ob x.1) Tryz.func193 (by kernel_rfl)
def Pb (a0:Int):Option (Bool):=
 (some (if decide (1<=a0) then decide (a0<=63)else false)).bind fun b1=>
 (some (if b1 then(J9 .i64 a0 (6:Int))==(0:Int)else false)).bind fun b2=>
 some b2
def mV:A9:=mC [] 194 Tryz.f194 .n [.k (.int .i64)] [.k (.bool)] (fun x=>Pb x.1) Tryz.func194 (by kernel_rfl)
def jb (a0:Int):Option (Bool):=
 (some (if decide (0<=a0) then decide (a0<=31)else false)).bind fun b1=>
 some b1
def yE:A9:=mC [] 233 Tryz.f233 .n [.k (.int .i64)] [.k (.bool)] (fun x=>jb x.1) Tryz.func233 (by kernel_rfl)
def Oc (a0:Int):Option ((List UInt8)):=
 (if a0==0 then
  some vt
 else if a0==1 then
  some qq
 else if a0==2 then
  some Aby
 else if a0==3 then
  some yw
 else if a0==4 then
  some mz
 else
  some ([]:List UInt8))
def Zv:A9:=mC [] 234 Tryz.f234 .n [.k (.int .i64)] [.k (.str)] (fun x=>Oc x.1) Tryz.func234 (by kernel_rfl)
def fF:Option ((List (List UInt8))):=
 some ([qr,vu,vv,iR,mA,Ul,RU,qt,iS,qu,iT,qv,qw,mB,bY,iU,Wb]:List (List UInt8))
def mW:A9:=mC [] 273 Tryz.f273 .n [] [.k (.u_ 9)] (fun x=>fF) Tryz.func273 (by kernel_rfl)
def PO:Option ((List (List UInt8))):=
 some ([([]:List UInt8),VM,N9,LT,RV,RW]:List (List UInt8))
def Wc:A9:=mC [] 236 Tryz.f236 .n [] [.k (.u_ 9)] (fun x=>PO) Tryz.func236 (by kernel_rfl)
def RY:Option ((List (List UInt8))):=
 some ([([]:List UInt8),fw,Zm]:List (List UInt8))
def Zw:A9:=mC [] 237 Tryz.f237 .n [] [.k (.u_ 9)] (fun x=>RY) Tryz.func237 (by kernel_rfl)
def PQ:Option ((List (List UInt8))):=
 some ([([]:List UInt8),mD,fx]:List (List UInt8))
def Wd:A9:=mC [] 238 Tryz.f238 .n [] [.k (.u_ 9)] (fun x=>PQ) Tryz.func238 (by kernel_rfl)
def RZ:Option ((List (List UInt8))):=
 some ([([]:List UInt8),QO,MF]:List (List UInt8))
def Zx:A9:=mC [] 239 Tryz.f239 .n [] [.k (.u_ 9)] (fun x=>RZ) Tryz.func239 (by kernel_rfl)
def qO (ahM:Int):Option (Bool):=
 some ((Int.tmod ahM (2:Int))==(1:Int))
def Zy (a1:Int) (adY:Int) (ajw:Int):Option ((Int×Int)⊕(Int)):=
 (if decide (ajw<a1) then
  some (.inl ((Ab (Int.tdiv adY (2:Int))),(Ab (ajw+1))))
 else
  some (.inr adY))
def KB (a0:Int) (a1:Int):Option (Bool):=
 jn (fun(v:Int)=>qO v) (fun jJ2=>
 (iter (fun(v:Int×Int)=>Zy a1 v.1 v.2) FU (a0,(0:Int))).bind (fun o0=>jJ2 o0))
def vM:A9:=mC [] 241 Tryz.f241 (.s .n (.j ⟨[],[A0 0],[],[]⟩ (.s .n (.l ⟨[1],[A0 0,A0 5],[],[]⟩ [(1,⟨[],[A0 0],[],[]⟩)] .n)) .n)) [.k (.int .i64), .k (.int .i64)] [.k (.bool)] (fun x=>KB x.1 x.2.1) Tryz.func241 (by kernel_rfl)
def fG:Option ((List (List UInt8))):=
 some ([([]:List UInt8),fy,fA,sY]:List (List UInt8))
def mY:A9:=mC [] 274 Tryz.f274 .n [] [.k (.u_ 9)] (fun x=>fG) Tryz.func274 (by kernel_rfl)
def HB (au3:List UInt8):Option ((List UInt8)):=
 some au3
def K0 (al4:Int) (aji:List UInt8):Option ((Int×(List UInt8))⊕((List UInt8))):=
 (if decide (0<al4) then
  (A1 (∀ n∈([IntKind.u8.wrap (IntKind.u64.wrap ((48:Int)+(Int.tmod al4 (10:Int))))]:List (Int)),0<=n/\n<256)).bind fun u11=>
  (cat (Ju ([IntKind.u8.wrap (IntKind.u64.wrap ((48:Int)+(Int.tmod al4 (10:Int))))]:List (Int))) aji).bind fun s12=>
  some (.inl ((IntKind.u64.wrap (Int.tdiv al4 (10:Int))),s12))
 else
  some (.inr aji))
def JR (a0:Int):Option ((List UInt8)):=
 (A1 (∀ n∈([IntKind.u8.wrap (IntKind.u64.wrap ((48:Int)+(Int.tmod a0 (10:Int))))]:List (Int)),0<=n/\n<256)).bind fun u1=>
 (iter (fun(v:Int×(List UInt8))=>K0 v.1 v.2) FU ((IntKind.u64.wrap (Int.tdiv a0 (10:Int))),(Ju ([IntKind.u8.wrap (IntKind.u64.wrap ((48:Int)+(Int.tmod a0 (10:Int))))]:List (Int))))).bind (fun o0=>HB o0)
def jc (a0:Int) (r:(List UInt8)):Prop:=CZ Tryz.prog I0 245 [.c (.int .u64 a0)] (· =vS r)
theorem cd {a0:Int} {r:(List UInt8)} (h:JR a0=some r):jc a0 r:=by
 refine CZ.bo Cd Tryz.func245 rfl Tryz.ntmps245 [.tmp 2] fun _ _ _ _=>?_;unfold JR at h;refine Gg [.a] (u [] []) (aN) ?_;obtain⟨u1,y0,h⟩:=bS h;refine Gg [.a,.a,.a,.a,.a,(.v (vS (Ju ([IntKind.u8.wrap (IntKind.u64.wrap ((48:Int)+(Int.tmod a0 (10:Int))))]:List (Int))))),.a] (u [] [(3,vS (Ju ([IntKind.u8.wrap (IntKind.u64.wrap ((48:Int)+(Int.tmod a0 (10:Int))))]:List (Int))))]) (aC (show (10:Int) ≠ 0 from(by decide))<|aC (show (HI Tryz.prog 227=true/\Eb Tryz.prog 9=true)/\1=1/\Kg (([IntKind.u8.wrap (IntKind.u64.wrap ((48:Int)+(Int.tmod a0 (10:Int))))]:List (Int)).flatMap (eI .u8))from⟨⟨by kernel_rfl,by kernel_rfl⟩,rfl,Mn (Ck y0)⟩)<|aC (congrArg (fun z=>V.c (.str z)) (NL ([IntKind.u8.wrap (IntKind.u64.wrap ((48:Int)+(Int.tmod a0 (10:Int))))]:List (Int))))<|aN)<|Sj (X:=(List UInt8)) (fun v=>(sl 25 [(3,vS v)] [])) (fun v=>HB v=some r) ?_ ?_
 ·refine Gg (nA 3) (u [] [(0,.c (.int .u64 (IntKind.u64.wrap (Int.tdiv a0 (10:Int)))))]) (aC (show (10:Int) ≠ 0 from(by decide))<|aN)<|hB ?_;obtain⟨d1,q0,h⟩:=bS h;refine It (fun(v:Int×(List UInt8))=>(sl 25 [(0,.c (.int .u64 v.1)),(3,vS v.2)] [])) q0 (wT) ?_;rintro⟨i0,k0⟩ z0 j0 t0;replace j0:K0 i0 k0=some z0:=j0;unfold K0 at j0;refine hS<|Gg [.a,.a] (u [] [(13,vB (decide (0<i0)))]) (aN)<|iC j0 (fun j0=>?_) (fun j0=>?_)
  ·refine hK<|Tn<|hS<|hB ?_;obtain⟨i1,x0,o0,p0,j0⟩:=bS2 j0;refine Ge [.a,.a,.a,.a,.a,(.v (vS (Ju ([IntKind.u8.wrap (IntKind.u64.wrap ((48:Int)+(Int.tmod i0 (10:Int))))]:List (Int))))),.a,(.v (vS o0)),.a] (uo [] [(3,vS o0),(16,.c (.int .u64 i0)),(17,.c (.int .u64 (Int.tmod i0 (10:Int)))),(18,.c (.int .u64 (IntKind.u64.wrap ((48:Int)+(Int.tmod i0 (10:Int)))))),(19,.c (.int .u8 (IntKind.u8.wrap (IntKind.u64.wrap ((48:Int)+(Int.tmod i0 (10:Int))))))),(20,vO [20]),(21,vS (Ju ([IntKind.u8.wrap (IntKind.u64.wrap ((48:Int)+(Int.tmod i0 (10:Int))))]:List (Int)))),(22,vS k0),(23,vS o0)] [.e (ur [20] 5 1 (eI .u8) ([IntKind.u8.wrap (IntKind.u64.wrap ((48:Int)+(Int.tmod i0 (10:Int))))]:List (Int)))]) (aC (show (10:Int) ≠ 0 from(by decide))<|aC (show (HI Tryz.prog 227=true/\Eb Tryz.prog 9=true)/\1=1/\Kg (([IntKind.u8.wrap (IntKind.u64.wrap ((48:Int)+(Int.tmod i0 (10:Int))))]:List (Int)).flatMap (eI .u8))from⟨⟨by kernel_rfl,by kernel_rfl⟩,rfl,Mn (Ck x0)⟩)<|aC (congrArg (fun z=>V.c (.str z)) (NL ([IntKind.u8.wrap (IntKind.u64.wrap ((48:Int)+(Int.tmod i0 (10:Int))))]:List (Int))))<|aC (AcK p0)<|aC (congrArg (fun z=>V.c (.str z)) (AcL p0).symm)<|aN)<|qN<|Tn<|Ge (nA 3) (u [] [(0,.c (.int .u64 (IntKind.u64.wrap (Int.tdiv i0 (10:Int))))),(14,.c (.int .u64 i0)),(15,.c (.int .u64 (IntKind.u64.wrap (Int.tdiv i0 (10:Int)))))]) (aC (show (10:Int) ≠ 0 from(by decide))<|aN)<|Tn ⟨((IntKind.u64.wrap (Int.tdiv i0 (10:Int))),o0),(sI j0).symm,wT⟩
  refine hE<|Te ?_;obtain rfl:=t0 _ (sI j0).symm;refine Te<|qX<|Tn ⟨k0,h,wT⟩
 rintro m0 n0;replace n0:HB m0=some r:=n0;unfold HB at n0;exact Rg [.a,.a] (sl 25 [(2,vS m0)] []) (aN)<|hR<|bQ _ (congrArg vS (sI n0))def amC:CE TE Tryz.prog I0:=⟨245,[.k (.int .u64)],[.k (.str)],fun x=>JR x.1,fun x r h=>QL (by kernel_rfl) (cd (r:=r) h),[],fun h=>absurd rfl h,none,(fun _ h=>nomatch h),none,(fun _ _ h=>nomatch h)⟩
def VQ (au1:List UInt8):Option ((List UInt8)):=
 some au1
def MG (a0:List (List UInt8)) (aat:Int) (asU:List UInt8):Option (((List UInt8)×Int)⊕((List UInt8))):=
 (idx a0 aat).bind fun e12=>
 (cat asU e12).bind fun s13=>
 some (.inl (s13,(Ab (aat+1))))
def VR (a0:List (List UInt8)) (a1:List UInt8) (anV:List UInt8) (aat:Int):Option (((List UInt8)×Int)⊕((List UInt8))):=
 (if(decide (aat<(a0.length:Int))) then
  jn (fun(v:(List UInt8))=>MG a0 aat v) (fun ad1=>
  (if decide (0<aat) then
   (cat anV a1).bind fun s15=>
   ad1 s15
  else
   ad1 anV))
 else
  some (.inr anV))
def R3 (a0:List (List UInt8)) (a1:List UInt8):Option ((List UInt8)):=
 jn (fun(v:(List UInt8))=>VQ v) (fun jJ2=>
 (iter (fun(v:(List UInt8)×Int)=>VR a0 a1 v.1 v.2) FU (([]:List UInt8),(0:Int))).bind (fun o0=>jJ2 o0))
def qP:A9:=mC [] 244 Tryz.f244 (.s .n (.s .n (.j ⟨[],[O4 5],[],[]⟩ (.s .n (.l ⟨[0,1],[O4 5,A0 6],[],[]⟩ [(1,⟨[],[O4 5],[],[]⟩)] (.s .n (.s (.j ⟨[0,1,6],[O4 5],[],[]⟩ .n .n) .n)))) .n))) [.k (.u_ 9), .k (.str)] [.k (.str)] (fun x=>R3 x.1 x.2.1) Tryz.func244 (by kernel_rfl)
def Od (a0:Int):Option ((List UInt8)):=
 (if a0==1 then
  some qx
 else if a0==2 then
  some qy
 else if a0==3 then
  some yx
 else if a0==4 then
  some mF
 else if a0==5 then
  some qz
 else if a0==6 then
  some vC
 else if a0==7 then
  some vD
 else if a0==8 then
  some vE
 else if a0==9 then
  some vF
 else if a0==10 then
  some qA
 else if a0==11 then
  some AbC
 else if a0==12 then
  some vG
 else if a0==13 then
  some vH
 else if a0==14 then
  some qB
 else
  some ([]:List UInt8))
def Zz:A9:=mC [] 185 Tryz.f185 .n [.k (.int .i64)] [.k (.str)] (fun x=>Od x.1) Tryz.func185 (by kernel_rfl)
def JS (a0:Int):Option (Bool):=
 (some (if a0==8 then true else a0==9)).bind fun b1=>
 (some (if b1 then true else a0==10)).bind fun b2=>
 (some (if b2 then true else a0==11)).bind fun b3=>
 (some (if b3 then true else a0==12)).bind fun b4=>
 (some (if b4 then true else a0==13)).bind fun b5=>
 some b5
def R4:A9:=mC [] 186 Tryz.f186 .n [.k (.int .i64)] [.k (.bool)] (fun x=>JS x.1) Tryz.func186 (by kernel_rfl)
def Pc (a0:Bn):Option (Bool):=
 (some (if a0.O_ != 0 then true else a0.R_ != 0)).bind fun b1=>
 (if b1 then
  some false
 else
  (some (if a0.Do==2 then true else a0.Do==4)).bind fun b3=>
  (if b3 then
   (some (if decide (1<=a0.N) then decide (a0.N<=99)else false)).bind fun b5=>
   some b5
  else
   some (a0.N==0)))
def mZ:A9:=mC [] 189 Tryz.f189 .n [.s 119] [.k (.bool)] (fun x=>Pc x.1) Tryz.func189 (by kernel_rfl)
def Oe (a0:Int):Option ((List UInt8)):=
 (some (if decide (a0<1) then true else decide (26<a0))).bind fun b1=>
 (if b1 then
  some ([]:List UInt8)
 else
  (idx ([Zn,VN,mG,mH,VO,mI,mJ,tb,fB,td,mK,Zo,tf,mL,VP,mM,Zp,PN,mN,mO,Zq,Zr,mP,th,Zs,fC]:List (List UInt8)) (Ab (a0 - 1))).bind fun e3=>
  (idx ([Zn,VN,mG,mH,VO,mI,mJ,tb,fB,td,mK,Zo,tf,mL,VP,mM,Zp,PN,mN,mO,Zq,Zr,mP,th,Zs,fC]:List (List UInt8)) (Ab (a0 - 1))).bind fun e4=>
  some e4)
def qQ:A9:=mC [] 224 Tryz.f224 .n [.k (.int .i64)] [.k (.str)] (fun x=>Oe x.1) Tryz.func224 (by kernel_rfl)
def R5 (asK:Bool):Option ((List UInt8)):=
 (if asK then
  some ([]:List UInt8)
 else
  some Afg)
def Of (a0:Int) (auY:Bool):Option ((List UInt8)):=
 (if auY then
  some AbD
 else if a0==12 then
  some AbE
 else if a0==13 then
  some Aff
 else if a0==14 then
  some Aha
 else if a0==18 then
  some AbF
 else if a0==20 then
  some Ahb
 else if a0==21 then
  some Ahc
 else
  jn (fun(v:Bool)=>R5 v) (fun aeh=>
  (if a0==23 then
   aeh (a0==23)
  else
   aeh (a0==24))))
def Og (a0:Int) (axD:Bool):Option ((List UInt8)):=
 (if axD then
  some Ag9
 else if a0==3 then
  some Afe
 else
  jn (fun(v:Bool)=>Of a0 v) (fun jJ6=>
  (if a0==10 then
   jJ6 (a0==10)
  else
   jJ6 (a0==11))))
def R6 (a0:Int):Option ((List UInt8)):=
 jn (fun(v:Bool)=>Og a0 v) (fun jJ2=>
 (if a0==2 then
  jJ2 (a0==2)
 else if a0==8 then
  jJ2 (a0==8)
 else if a0==9 then
  jJ2 (a0==9)
 else if a0==15 then
  jJ2 (a0==15)
 else if a0==16 then
  jJ2 (a0==16)
 else if a0==17 then
  jJ2 (a0==17)
 else
  jJ2 (a0==25)))
def qR:A9:=mC [] 269 Tryz.f269 (.s .n (.s (.s .n (.j ⟨[3],[EO 4],[],[]⟩ .n (.i .n (.s .n (.i .n (.j ⟨[3],[EO 14],[],[]⟩ .n (.i .n (.s .n (.i .n (.s .n (.i .n (.s .n (.i .n (.s .n (.i .n (.s .n (.i .n (.s .n (.i .n (.j ⟨[],[EO 29],[],[]⟩ .n .n)))))))))))))))))))) .n)) [.k (.int .i64)] [.k (.str)] (fun x=>R6 x.1) Tryz.func269 (by kernel_rfl)
def MH (a0:Int):Option (Bool):=
 (some (if a0==3 then true else a0==8)).bind fun b1=>
 some b1
def ZA:A9:=mC [] 270 Tryz.f270 .n [.k (.int .i64)] [.k (.bool)] (fun x=>MH x.1) Tryz.func270 (by kernel_rfl)
def Oh (a0:Int):Option ((List UInt8)):=
 (if a0==0 then
  some yz
 else if a0==1 then
  some vI
 else if a0==2 then
  some qC
 else
  some ([]:List UInt8))
def ZB:A9:=mC [] 227 Tryz.f227 .n [.k (.int .i64)] [.k (.str)] (fun x=>Oh x.1) Tryz.func227 (by kernel_rfl)
def m6 (aFj:AS):Option (AS):=
 some aFj
def jd (a0:A6 (Int)) (ab3:Int) (asd:AS):Option ((Int×AS)⊕(AS)):=
 (if decide (ab3<5) then
  (idx a0.l (Ab (ab3+1))).bind fun e13=>
  (idx a0.l (Ab (ab3+1))).bind fun e14=>
  (idx asd.Color.l ab3).bind fun e15=>
  (idx (asd.Color.l) ab3).bind fun e16=>
  some (.inl ((Ab (ab3+1)),({asd with Color:=asd.Color.set (ab3).toNat e14})))
 else
  some (.inr asd))
def ZC (a0:A6 (Int)):Option (AS):=
 (idx a0.l (0:Int)).bind fun e1=>
 (idx a0.l (0:Int)).bind fun e2=>
 jn (fun(v:AS)=>m6 v) (fun jJ4=>
 (iter (fun(v:Int×AS)=>jd a0 v.1 v.2) FU ((0:Int),(⟨e2,0,(⟨0,0,0,0,0⟩:A5 (Int))⟩:AS))).bind (fun o0=>jJ4 o0))
def qS:A9:=mC [] 272 Tryz.f272 (.s .n (.s .n (.j ⟨[2,3],[],[[2]],[([3], .box [.v (.s 99)])]⟩ (.s .n (.l ⟨[1,2,3],[A0 4],[[1],[2]],[([3], .box [.v (.s 99)])]⟩ [(1,⟨[2,3],[],[[2]],[([3], .box [.v (.s 99)])]⟩)] .n)) .n))) [.s 59] [.s 99] (fun x=>ZC x.1) Tryz.func272 (by kernel_rfl)
def ZD (a0:AN):Option (Bool):=
 (some (if a0.aea.Types==2 then true else a0.aea.Types==4)).bind fun b1=>
 some b1
def qT:A9:=mC [] 110 Tryz.f110 .n [.s 102] [.k (.bool)] (fun x=>ZD x.1) Tryz.func110 (by kernel_rfl)
def VS:Option (Int):=
 some (-1:Int)
def H5 (a0:List (AN)) (a1:List UInt8) (F_:Int):Option ((Int)⊕(Unit⊕Int)):=
 (if(decide (F_<(a0.length:Int))) then
  (idx a0 F_).bind fun e7=>
  (if e7.Name==a1 then
   some (.inr (.inr F_))
  else
   some (.inl (Ab (F_+1))))
 else
  some (.inr (.inl ())))
def R7 (a0:List (AN)) (a1:List UInt8):Option (Int):=
 jn (fun(v:Unit)=>VS) (fun jJ1=>
 (iter (fun(v:Int)=>H5 a0 a1 v) FU (0:Int)).bind (Sum.elim (fun o0=>jJ1 ()) (fun o1=>some o1)))
def qU:A9:=mC [] 63 Tryz.f63 (.s .n (.j EN (.s .n (.l ⟨[0,1],[A0 5],[],[]⟩ [(1,EN),(0,⟨[],[A0 4],[],[]⟩)] .n)) .n)) [.k (.u_ 102), .k (.str)] [.k (.int .i64)] (fun x=>R7 x.1 x.2.1) Tryz.func63 (by kernel_rfl)
def R8:Option (Bool):=
 some false
def Gt (a0:List (AN)) (a1:List UInt8) (F_:Int):Option ((Int)⊕(Unit⊕Bool)):=
 (if(decide (F_<(a0.length:Int))) then
  (idx a0 F_).bind fun e7=>
  (gd ((e7.Name==a1)==true) (idx a0 F_)).bind fun e8=>
  (some (if e7.Name==a1 then e8.Token else false)).bind fun b9=>
  (if b9 then
   some (.inr (.inr true))
  else
   some (.inl (Ab (F_+1))))
 else
  some (.inr (.inl ())))
def Pd (a0:List (AN)) (a1:List UInt8):Option (Bool):=
 jn (fun(v:Unit)=>R8) (fun jJ1=>
 (iter (fun(v:Int)=>Gt a0 a1 v) FU (0:Int)).bind (Sum.elim (fun o0=>jJ1 ()) (fun o1=>some o1)))
def m7:A9:=mC [] 111 Tryz.f111 (.s .n (.j EN (.s .n (.l ⟨[0,1],[A0 5],[],[]⟩ [(1,EN),(0,⟨[],[EO 4],[],[]⟩)] .n)) .n)) [.k (.u_ 102), .k (.str)] [.k (.bool)] (fun x=>Pd x.1 x.2.1) Tryz.func111 (by kernel_rfl)
def Eu (a0:Int) (a1:Int) (a2:Int):Option (Bool):=
 (some (if decide (a1<=a0) then decide (a0<=a2)else false)).bind fun b1=>
 some b1
def Oi:A9:=mC [] 49 Tryz.f49 .n [.k (.int .i64), .k (.int .i64), .k (.int .i64)] [.k (.bool)] (fun x=>Eu x.1 x.2.1 x.2.2.1) Tryz.func49 (by kernel_rfl)
def R9:Option (Bool):=
 some true
def Sa (a0:A6 (Int)) (aaM:Int):Option ((Int)⊕(Unit⊕Bool)):=
 (if decide (aaM<6) then
  (idx a0.l aaM).bind fun e7=>
  (idx a0.l aaM).bind fun e8=>
  (gd ((decide (e8<0))==false) (idx a0.l aaM)).bind fun e9=>
  (gd ((decide (e8<0))==false) (idx a0.l aaM)).bind fun e10=>
  (some (if decide (e8<0) then true else decide (1000000<e10))).bind fun b11=>
  (if b11 then
   some (.inr (.inr false))
  else
   some (.inl (Ab (aaM+1))))
 else
  some (.inr (.inl ())))
def Pe (a0:A6 (Int)):Option (Bool):=
 jn (fun(v:Unit)=>R9) (fun jJ1=>
 (iter (fun(v:Int)=>Sa a0 v) FU (0:Int)).bind (Sum.elim (fun o0=>jJ1 ()) (fun o1=>some o1)))
def m8:A9:=mC [] 90 Tryz.f90 (.s .n (.j EN (.s .n (.l ⟨[1],[A0 3],[[1]],[]⟩ [(1,EN),(0,⟨[],[EO 2],[],[]⟩)] .n)) .n)) [.s 59] [.k (.bool)] (fun x=>Pe x.1) Tryz.func90 (by kernel_rfl)
def je:Option (Int):=
 some (-1:Int)
def Da (a0:Aa) (a1:Int) (F_:Int):Option ((Int)⊕(Unit⊕Int)):=
 (if(decide (F_<(a0.b_.length:Int))) then
  (idx a0.b_ F_).bind fun e7=>
  (if e7.Id==a1 then
   some (.inr (.inr F_))
  else
   some (.inl (Ab (F_+1))))
 else
  some (.inr (.inl ())))
def Ja (a0:Aa) (a1:Int):Option (Int):=
 jn (fun(v:Unit)=>je) (fun jJ1=>
 (iter (fun(v:Int)=>Da a0 a1 v) FU (0:Int)).bind (Sum.elim (fun o0=>jJ1 ()) (fun o1=>some o1)))
def Oj:A9:=mC [] 222 Tryz.f222 (.s .n (.j EN (.s .n (.l ⟨[1,2],[A0 5],[[2]],[]⟩ [(1,EN),(0,⟨[],[A0 4],[],[]⟩)] .n)) .n)) [.s 36, .k (.int .i64)] [.k (.int .i64)] (fun x=>Ja x.1 x.2.1) Tryz.func222 (by kernel_rfl)
def jf (avC:Int):Option (Int):=
 some avC
def K1 (aat:Int) (as6:Int):Option ((Int×Int)⊕(Int)):=
 some (.inl (as6,(Ab (aat+1))))
def Gu (a0:List (Int)) (a1:Int) (an9:Int) (aat:Int):Option ((Int×Int)⊕(Int)):=
 (if(decide (aat<(a0.length:Int))) then
  jn (fun(v:Int)=>K1 aat v) (fun ad1=>
  (idx a0 aat).bind fun e12=>
  (if e12==a1 then
   ad1 (Ab (an9+1))
  else
   ad1 an9))
 else
  some (.inr an9))
def LX (a0:List (Int)) (a1:Int):Option (Int):=
 jn (fun(v:Int)=>jf v) (fun jJ2=>
 (iter (fun(v:Int×Int)=>Gu a0 a1 v.1 v.2) FU ((0:Int),(0:Int))).bind (fun o0=>jJ2 o0))
def VU:A9:=mC [] 132 Tryz.f132 (.s .n (.s .n (.j ⟨[],[A0 5],[],[]⟩ (.s .n (.l ⟨[0,1],[A0 5,A0 6],[],[]⟩ [(1,⟨[],[A0 5],[],[]⟩)] (.s .n (.j ⟨[0,1,6],[A0 5],[],[]⟩ .n .n)))) .n))) [.k (.u_ 3), .k (.int .i64)] [.k (.int .i64)] (fun x=>LX x.1 x.2.1) Tryz.func132 (by kernel_rfl)
def fH:Option (Bool):=
 some true
def fI (a0:A3 (Int)) (aaM:Int):Option ((Int)⊕(Unit⊕Bool)):=
 (if decide (aaM<3) then
  (idx a0.l aaM).bind fun e7=>
  (idx a0.l aaM).bind fun e8=>
  (gd ((decide (e8<0))==false) (idx a0.l aaM)).bind fun e9=>
  (gd ((decide (e8<0))==false) (idx a0.l aaM)).bind fun e10=>
  (some (if decide (e8<0) then true else decide (1000000<e10))).bind fun b11=>
  (if b11 then
   some (.inr (.inr false))
  else
   some (.inl (Ab (aaM+1))))
 else
  some (.inr (.inl ())))
def jg (a0:A3 (Int)):Option (Bool):=
 jn (fun(v:Unit)=>fH) (fun jJ1=>
 (iter (fun(v:Int)=>fI a0 v) FU (0:Int)).bind (Sum.elim (fun o0=>jJ1 ()) (fun o1=>some o1)))
def yF:A9:=mC [] 133 Tryz.f133 (.s .n (.j EN (.s .n (.l ⟨[1],[A0 3],[[1]],[]⟩ [(1,EN),(0,⟨[],[EO 2],[],[]⟩)] .n)) .n)) [.s 68] [.k (.bool)] (fun x=>jg x.1) Tryz.func133 (by kernel_rfl)
def ZE (a0:Ae):Option (Ae):=
 some ({{{a0 with akA:=(-1:Int)}with amD:=false}with akz:=(0:Int)})
def qV:A9:=mC [] 134 Tryz.f134 .n [.s 70] [.s 70] (fun x=>ZE x.1) Tryz.func134 (by kernel_rfl)
def Uq (a0:Ae):Option (Ae):=
 some ({{{a0 with aky:=(0:Int)}with aoR:=false}with akx:=(0:Int)})
def m9:A9:=mC [] 135 Tryz.f135 .n [.s 70] [.s 70] (fun x=>Uq x.1) Tryz.func135 (by kernel_rfl)
def PR (avp:Int):Option (Int):=
 some avp
def JT (aat:Int) (as4:Int):Option ((Int×Int)⊕(Int)):=
 some (.inl (as4,(Ab (aat+1))))
def PS (a0:Aa) (a1:Int) (an0:Int) (aat:Int):Option ((Int×Int)⊕(Int)):=
 (if(decide (aat<(a0.Stack.length:Int))) then
  jn (fun(v:Int)=>JT aat v) (fun ad1=>
  (idx a0.Stack aat).bind fun e12=>
  (gd ((e12.Kind==1)==true) (idx a0.Stack aat)).bind fun e13=>
  (some (if e12.Kind==1 then e13.Id==a1 else false)).bind fun b14=>
  (if b14 then
   ad1 (Ab (an0+1))
  else
   ad1 an0))
 else
  some (.inr an0))
def JU (a0:Aa) (a1:Int):Option (Int):=
 jn (fun(v:Int)=>PR v) (fun jJ2=>
 (iter (fun(v:Int×Int)=>PS a0 a1 v.1 v.2) FU ((0:Int),(0:Int))).bind (fun o0=>jJ2 o0))
def jh:A9:=mC [] 136 Tryz.f136 (.s .n (.s .n (.j ⟨[],[A0 5],[],[]⟩ (.s .n (.l ⟨[1,2],[A0 5,A0 6],[[2]],[]⟩ [(1,⟨[],[A0 5],[],[]⟩)] (.s .n (.j ⟨[1,2,6],[A0 5],[[2]],[]⟩ .n .n)))) .n))) [.s 36, .k (.int .i64)] [.k (.int .i64)] (fun x=>JU x.1 x.2.1) Tryz.func136 (by kernel_rfl)
def BU (a0:List (Int)):Option ((List (Int))):=
 (app 8 ([]:List (Int)) a0).bind fun l1=>
 some l1
def QQ:A9:=mX [] 83 Tryz.f83 .n [[1]] [.k (.u_ 3)] [.k (.u_ 3)] (fun x=>BU x.1) Tryz.func83 (by kernel_rfl)
def We:Option (Bool):=
 some true
def Im (a0:List (BB)) (a1:List (BB)) (Y_:Int):Option ((Int)⊕(Unit⊕Bool)):=
 (if(decide (Y_<(a0.length:Int))) then
  (idx a0 Y_).bind fun e8=>
  (idx a1 Y_).bind fun e9=>
  (if !(e8==e9) then
   some (.inr (.inr false))
  else
   some (.inl (Ab (Y_+1))))
 else
  some (.inr (.inl ())))
def DG (a0:List (BB)) (a1:List (BB)):Option (Bool):=
 (if((a0.length:Int) != (a1.length:Int)) then
  some false
 else
  jn (fun(v:Unit)=>We) (fun jJ2=>
  (iter (fun(v:Int)=>Im a0 a1 v) FU (0:Int)).bind (Sum.elim (fun o0=>jJ2 ()) (fun o1=>some o1))))
def Ol:A9:=mC [] 157 Tryz.f157 (.s .n (.s .n (.j EN (.s .n (.l ⟨[0,1],[A0 5],[],[]⟩ [(1,EN),(0,⟨[],[EO 4],[],[]⟩)] .n)) .n))) [.k (.u_ 148), .k (.u_ 148)] [.k (.bool)] (fun x=>DG x.1 x.2.1) Tryz.func157 (by kernel_rfl)
def vN:Option (Bool):=
 some true
def fJ (a0:List (Int)) (aaM:Int):Option ((Int)⊕(Unit⊕Bool)):=
 (if(decide (aaM<(a0.length:Int))) then
  (idx a0 (Ab (aaM - 1))).bind fun e7=>
  (idx a0 aaM).bind fun e8=>
  (if decide (e8<=e7) then
   some (.inr (.inr false))
  else
   some (.inl (Ab (aaM+1))))
 else
  some (.inr (.inl ())))
def ZF (a0:List (Int)):Option (Bool):=
 jn (fun(v:Unit)=>vN) (fun jJ1=>
 (iter (fun(v:Int)=>fJ a0 v) FU (1:Int)).bind (Sum.elim (fun o0=>jJ1 ()) (fun o1=>some o1)))
def yG:A9:=mC [] 96 Tryz.f96 (.s .n (.j EN (.s .n (.l ⟨[0],[A0 3],[],[]⟩ [(1,EN),(0,⟨[],[EO 2],[],[]⟩)] .n)) .n)) [.k (.u_ 3)] [.k (.bool)] (fun x=>ZF x.1) Tryz.func96 (by kernel_rfl)
def ZG (a1:Int) (akG:Int) (af3:List (List (Int))):Option (Di):=
 (A1 (akG=((af3.length:Nat):Int))).bind fun _=>
 some (⟨([(⟨qD,false,(⟨0,0,(⟨0,0,0,0,0⟩:A5 (Int))⟩:AS),0,(⟨0,32,([]:List (List UInt8))⟩:JN),0,0,0,([]:List (AG))⟩:AN)]:List (AN)),af3,a1,1⟩:Di)
def Wf (a0:Int) (arC:Int) (abq:Int) (aa1:List (List (Int))):Option ((Int×Int×(List (List (Int))))⊕((Int×(List (List (Int)))))):=
 (if decide (arC<a0) then
  (idx aa1 (0:Int)).bind fun e15=>
  (idx aa1 (0:Int)).bind fun e16=>
  (A1 (0<abq)).bind fun u17=>
  (app 8 e16 ([(0:Int)]:List (Int))).bind fun l18=>
  (idx aa1 (0:Int)).bind fun e19=>
  (idx aa1 (0:Int)).bind fun e20=>
  (A1 (0<abq)).bind fun u21=>
  (A1 ((0:Int)=(0:Int))).bind fun u22=>
  (some (aa1.set ((0:Int)).toNat l18)).bind fun l23=>
  (idx l23 (1:Int)).bind fun e24=>
  (idx l23 (1:Int)).bind fun e25=>
  (A1 (1<abq)).bind fun u26=>
  (app 8 e25 ([(0:Int)]:List (Int))).bind fun l27=>
  (idx l23 (1:Int)).bind fun e28=>
  (idx l23 (1:Int)).bind fun e29=>
  (A1 (1<abq)).bind fun u30=>
  (A1 ((1:Int)=(1:Int))).bind fun u31=>
  (some (l23.set ((1:Int)).toNat l27)).bind fun l32=>
  some (.inl ((Ab (arC+1)),abq,l32))
 else
  some (.inr (abq,aa1)))
def Om (a0:Int) (a1:Int):Option (Di):=
 jn (fun(v:Int×(List (List (Int))))=>ZG a1 v.1 v.2) (fun jJ3=>
 (iter (fun(v:Int×Int×(List (List (Int))))=>Wf a0 v.1 v.2.1 v.2.2) FU ((0:Int),((([([]:List (Int)),([]:List (Int))]:List (List (Int))).length :Nat):Int),([([]:List (Int)),([]:List (Int))]:List (List (Int))))).bind (fun o0=>jJ3 (o0.1,o0.2)))
def ce:A9:=mX [] 20 Tryz.f20 (.s .n (.s (.r [] [] (.q 5 .sb .n)) (.j ⟨[4,5],[],[[4],[5],[9]],[([1000003,12], .deep 31)]⟩ (.s .n (.l ⟨[0,4,5],[A0 6],[[4],[5],[9]],[([1000003,12], .deep 31)]⟩ [(1,⟨[4,5],[],[[4],[5],[9]],[([1000003,12], .deep 31)]⟩)] (.s .n (.s (.s (.r [] [] (.t (.q 5 .au (.q 9 .au .n)))) (.r [] [] (.t (.q 5 .au (.q 9 .au .n))))) .n)))) .n))) [[1,2,0,0]] [.k (.int .i64), .k (.int .u64)] [.s 26] (fun x=>Om x.1 x.2.1) Tryz.func20 (by kernel_rfl)
def nc:Option (Bool):=
 some true
def ne (a0:List UInt8) (alZ:Int):Option ((Int)⊕(Unit⊕Bool)):=
 (if(decide (alZ<((G8 a0).length :Int))) then
  (idx (G8 a0) alZ).bind fun e17=>
  (some (if decide (e17<97) then true else decide (122<e17))).bind fun b18=>
  (some (if decide (e17<48) then true else decide (57<e17))).bind fun b19=>
  (some (if b18 then b19 else false)).bind fun b20=>
  (some (if b20 then e17 != 45 else false)).bind fun b21=>
  (if b21 then
   some (.inr (.inr false))
  else
   some (.inl (Ab (alZ+1))))
 else
  some (.inr (.inl ())))
def tj (a0:List UInt8):Option (Bool):=
 (some (if((a0.length:Int)==0) then true else decide (32<(a0.length:Int)))).bind fun b1=>
 (gd (b1==false) (acT a0 (0:Int))).bind fun c2=>
 (some (if b1 then true else decide (c2<97))).bind fun b3=>
 (gd (b3==false) (acT a0 (0:Int))).bind fun c4=>
 (some (if b3 then true else decide (122<c4))).bind fun b5=>
 (gd (b5==false) (acT a0 (Ab ((a0.length:Int) - (1:Int))))).bind fun c6=>
 (some (if b5 then true else c6==45)).bind fun b7=>
 (gd (b7==false) (O8 a0 vJ)).bind fun r8=>
 (if(if b7=true then true else r8) then
  some false
 else
  jn (fun(v:Unit)=>nc) (fun ajx=>
  (A1 (a0.length<=140737488355328)).bind fun u11=>
  (iter (fun(v:Int)=>ne a0 v) FU (0:Int)).bind (Sum.elim (fun o0=>ajx ()) (fun o1=>some o1))))
def vP:A9:=mC [mQ] 145 Tryz.f145 (.s .n (.s .n (.j EN (.s (.r [] [] (.q 1 .by_ .n)) (.l ⟨[36,37],[A0 38],[],[]⟩ [(1,EN),(0,⟨[],[EO 2],[],[]⟩)] .n)) .n))) [.k (.str)] [.k (.bool)] (fun x=>tj x.1) Tryz.func145 (by kernel_rfl)
def qW (a0:AS):Option (Bool):=
 (some (if decide (0<=a0.Generic) then decide (a0.Generic<=99)else false)).bind fun b2=>
 (some (if b2 then decide (0<=a0.X)else false)).bind fun b3=>
 (some (if b3 then decide (a0.X<=2)else false)).bind fun b4=>
 some b4
def qY (a0:AS) (aqQ:Int):Option ((Int)⊕(Unit⊕Bool)):=
 (if decide (aqQ<5) then
  (idx a0.Color.l aqQ).bind fun e10=>
  (some (if decide (e10<0) then true else decide (9<e10))).bind fun b11=>
  (if b11 then
   some (.inr (.inr false))
  else
   some (.inl (Ab (aqQ+1))))
 else
  some (.inr (.inl ())))
def tl (a0:AS):Option (Bool):=
 jn (fun(v:Unit)=>qW a0) (fun jJ1=>
 (iter (fun(v:Int)=>qY a0 v) FU (0:Int)).bind (Sum.elim (fun o0=>jJ1 ()) (fun o1=>some o1)))
def vQ:A9:=mC [] 146 Tryz.f146 (.s .n (.j ⟨[1],[],[[1]],[]⟩ (.s .n (.l ⟨[1,6],[A0 7],[[1]],[]⟩ [(1,⟨[1],[],[[1]],[]⟩),(0,⟨[],[EO 2],[],[]⟩)] .n)) .n)) [.s 99] [.k (.bool)] (fun x=>tl x.1) Tryz.func146 (by kernel_rfl)
def PT (a0:Int):Option (Bool):=
 (some (if((J9 .i64 a0 (6:Int))==(0:Int)) then true else a0==2)).bind fun b1=>
 (some (if b1 then true else a0==4)).bind fun b2=>
 some b2
def Wg:A9:=mC [] 201 Tryz.f201 .n [.k (.int .i64)] [.k (.bool)] (fun x=>PT x.1) Tryz.func201 (by kernel_rfl)
def ZH (a0:Int):Option (Bool):=
 (some (if decide (0<=a0) then decide (a0<=131071)else false)).bind fun b1=>
 some b1
def ji:A9:=mC [] 148 Tryz.f148 .n [.k (.int .i64)] [.k (.bool)] (fun x=>ZH x.1) Tryz.func148 (by kernel_rfl)
def nf (a0:Int):Option (Bool):=
 (some (if decide (0<=a0) then decide (a0<=31)else false)).bind fun b1=>
 some b1
def qZ:A9:=mC [] 149 Tryz.f149 .n [.k (.int .i64)] [.k (.bool)] (fun x=>nf x.1) Tryz.func149 (by kernel_rfl)
def ZI (a0:AN):Option (Bool):=
 some ((J9 .i64 a0.aea.Types (6:Int)) != (0:Int))
def jk:A9:=mC [] 151 Tryz.f151 .n [.s 102] [.k (.bool)] (fun x=>ZI x.1) Tryz.func151 (by kernel_rfl)
def PU (a0:AN):Option (Bool):=
 (some (if a0.Token then true else(J9 .i64 a0.aea.Types (32:Int)) != (0:Int))).bind fun b1=>
 some b1
def Wh:A9:=mC [] 152 Tryz.f152 .n [.s 102] [.k (.bool)] (fun x=>PU x.1) Tryz.func152 (by kernel_rfl)
def Wi (axC:Int):Option (Int):=
 some axC
def Wj (jJ2:(Int)->Option (Int)):Option (Int):=
 jJ2 (-1:Int)
def Wl (a0:List (AN)) (a1:List UInt8) (agB:Int):Option ((Int)⊕(Unit⊕Int)):=
 (if(decide (agB<(a0.length:Int))) then
  (idx a0 agB).bind fun e9=>
  (if e9.Name==a1 then
   some (.inr (.inr agB))
  else
   some (.inl (Ab (agB+1))))
 else
  some (.inr (.inl ())))
def Sb (a0:List (AN)) (a1:List UInt8):Option (Int):=
 jn (fun(v:Int)=>Wi v) (fun jJ2=>
 jn (fun(v:Unit)=>Wj jJ2) (fun jJ3=>
 (iter (fun(v:Int)=>Wl a0 a1 v) FU (0:Int)).bind (Sum.elim (fun o0=>jJ3 ()) (fun o1=>jJ2 o1))))
def ZJ:A9:=mC [] 99 Tryz.f99 (.s .n (.s (.r [] [] (.j 2 ⟨[],[A0 7],[],[]⟩ (.s .n (.j ⟨[],[],[[3]],[]⟩ (.s .n (.l ⟨[0,1,7],[A0 8],[[3]],[]⟩ [(1,⟨[],[],[[3]],[]⟩),(0,⟨[],[A0 4],[[3]],[]⟩)] (.s .n (.s .n (.s (.s .n (.s (.r [] [] (.c 5 .n .n)) .n)) .n))))) .n)) .n)) .n)) [.k (.u_ 102), .k (.str)] [.k (.int .i64)] (fun x=>Sb x.1 x.2.1) Tryz.func99 (by kernel_rfl)
def Ur:Option (Bool):=
 some false
def Us (ajc:Int):Option ((Int)⊕(Unit⊕Bool)):=
 some (.inl (Ab (ajc+1)))
def Sc (agG:Int) (e14:AF) (atF:Int):Option ((Int)⊕(Unit⊕Bool)):=
 (some (if e14.Op==12 then !(decide (0<=atF))else false)).bind fun b17=>
 (if b17 then
  some (.inr (.inr true))
 else
  some (.inl (Ab (agG+1))))
def Sd (agU:(Int)->Option ((Int)⊕(Unit⊕Bool))):Option ((Int)⊕(Unit⊕Bool)):=
 agU (-1:Int)
def Se (a0:List (AN)) (e14:AF) (ai6:Int):Option ((Int)⊕(Unit⊕Int)):=
 (if(decide (ai6<(a0.length:Int))) then
  (idx a0 ai6).bind fun e25=>
  (some (if e25.Name==e14.aag then e25.Token else false)).bind fun b26=>
  (if b26 then
   some (.inr (.inr ai6))
  else
   some (.inl (Ab (ai6+1))))
 else
  some (.inr (.inl ())))
def Sf (a0:List (AN)) (e8:AG) (agG:Int):Option ((Int)⊕(Unit⊕Bool)):=
 (if(decide (agG<(e8.w_.length:Int))) then
  (idx e8.w_ agG).bind fun e14=>
  jn (fun(v:Int)=>Sc agG e14 v) (fun agU=>
  jn (fun(v:Unit)=>Sd agU) (fun amb=>
  (iter (fun(v:Int)=>Se a0 e14 v) FU (0:Int)).bind (Sum.elim (fun o0=>amb ()) (fun o1=>agU o1))))
 else
  some (.inr (.inl ())))
def Ut (a0:List (AN)) (a1:AN) (ajc:Int):Option ((Int)⊕(Unit⊕Bool)):=
 (if(decide (ajc<(a1.A_.length:Int))) then
  jn (fun(v:Unit)=>Us ajc) (fun jJ7=>
  (idx a1.A_ ajc).bind fun e8=>
  (iter (fun(v:Int)=>Sf a0 e8 v) FU (0:Int)).bind (Sum.elim (fun o0=>jJ7 ()) (fun o1=>some (.inr (.inr o1)))))
 else
  some (.inr (.inl ())))
def PV (a0:List (AN)) (a1:AN):Option (Bool):=
 jn (fun(v:Unit)=>Ur) (fun jJ1=>
 (iter (fun(v:Int)=>Ut a0 a1 v) FU (0:Int)).bind (Sum.elim (fun o0=>jJ1 ()) (fun o1=>some o1)))
def Wm:A9:=mC [] 100 Tryz.f100 (.s .n (.j EN (.s .n (.l ⟨[0,11,12],[A0 13],[],[]⟩ [(1,EN),(0,⟨[],[EO 4],[],[]⟩)] (.s .n (.s .n (.j ⟨[0,11,12,13],[],[],[]⟩ (.s .n (.s .n (.l ⟨[0,11,12,13,18,19],[A0 20],[],[]⟩ [(3,⟨[0,11,12,13],[],[],[]⟩),(0,⟨[],[EO 4],[],[]⟩)] (.s .n (.s .n (.s (.s .n (.s (.r [] [] (.c 2 (.s .n (.s (.r [] [] (.j 2 ⟨[],[A0 7],[[8]],[]⟩ (.s .n (.j ⟨[],[],[[8]],[]⟩ (.s .n (.l ⟨[0,1,7],[A0 8],[[8]],[]⟩ [(1,⟨[],[],[[8]],[]⟩),(0,⟨[],[A0 4],[[8]],[]⟩)] (.s .n (.s .n (.s (.s .n (.s (.r [] [] (.c 5 .n .n)) .n)) .n))))) .n)) .n)) .n)) .n)) .n)) .n)))))) .n))))) .n)) [.k (.u_ 102), .s 102] [.k (.bool)] (fun x=>PV x.1 x.2.1) Tryz.func100 (by kernel_rfl)
def cf (adO:Int) (acM:List (Ap)) (ar4:Int) (aoo:Int) (ar5:Int) (aon:Bool) (akW:Int) (amZ:Int) (am0:Int) (ajH:Int) (ap8:Int) (ap9:Int) (amY:Int):Option (Aa):=
 (A1 (adO=((acM.length:Nat):Int))).bind fun _=>
 some (⟨acM,([]:List (Ae)),([]:List (Int)),([]:List (Int)),([]:List (AE)),([]:List (AA)),([]:List (AY)),ar4,aoo,ar5,aon,akW,amZ,am0,ajH,ap8,([]:List (Int)),ap9,amY⟩:Aa)
def jl (a0:Int) (a1:Int) (a2:Int) (adO:Int) (acM:List (Ap)):Option (Aa):=
 jn (fun(v:Int×Int×Int×Bool×Int×Int×Int×Int×Int×Int×Int)=>cf adO acM v.1 v.2.1 v.2.2.1 v.2.2.2.1 v.2.2.2.2.1 v.2.2.2.2.2.1 v.2.2.2.2.2.2.1 v.2.2.2.2.2.2.2.1 v.2.2.2.2.2.2.2.2.1 v.2.2.2.2.2.2.2.2.2.1 v.2.2.2.2.2.2.2.2.2.2) (fun akH=>
 (some (if decide (0<a1) then decide (a1<(if 4<(if a0<2 then(2:Int)else a0)then(4:Int)else(if a0<2 then(2:Int)else a0)))else false)).bind fun b19=>
 (if b19 then
  akH ((0:Int),a1,(0:Int),false,a1,(0:Int),(1:Int),(1:Int),a2,(0:Int),(-1:Int))
 else
  akH ((0:Int),(0:Int),(0:Int),false,(0:Int),(0:Int),(1:Int),(1:Int),a2,(0:Int),(-1:Int))))
def cg (l2:List (Ap)) (agF:Int) (aeT:Int) (ack:List (Ap)):Option ((Int×Int×(List (Ap)))⊕((Int×(List (Ap))))):=
 (if(decide (agF<(l2.length:Int))) then
  (idx ack agF).bind fun e32=>
  (idx ack agF).bind fun e33=>
  (some (ack.set (agF).toNat ({e33 with afD:=(20:Int)}))).bind fun l34=>
  some (.inl ((Ab (agF+1)),aeT,l34))
 else
  some (.inr (aeT,ack)))
def fK (a0:Int) (a1:Int) (a2:Int):Option (Aa):=
 (A1 (0<=(if 4<(if a0<2 then(2:Int)else a0)then(4:Int)else(if a0<2 then(2:Int)else a0))/\(if 4<(if a0<2 then(2:Int)else a0)then(4:Int)else(if a0<2 then(2:Int)else a0))<=(if 4<(if a0<2 then(2:Int)else a0)then(4:Int)else(if a0<2 then(2:Int)else a0))/\(if 4<(if a0<2 then(2:Int)else a0)then(4:Int)else(if a0<2 then(2:Int)else a0))*152<=140737488355328/\(if 4<(if a0<2 then(2:Int)else a0)then(4:Int)else(if a0<2 then(2:Int)else a0))<=maxLen)).bind fun u1=>
 (some (List.replicate ((if 4<(if a0<2 then(2:Int)else a0)then(4:Int)else(if a0<2 then(2:Int)else a0))).toNat (⟨0,0,0,(⟨0,0,0,0,0,0⟩:A6 (Int)),false,false,([]:List (Int)),([]:List (Int)),([]:List (Int))⟩:Ap))).bind fun l2=>
 (A1 (0<l2.length)).bind fun u3=>
 jn (fun(v:Int×(List (Ap)))=>jl a0 a1 a2 v.1 v.2) (fun jJ6=>
 (iter (fun(v:Int×Int×(List (Ap)))=>cg l2 v.1 v.2.1 v.2.2) FU ((0:Int),((l2.length:Nat):Int),l2)).bind (fun o0=>jJ6 (o0.1,o0.2)))
def ng:A9:=mX [] 22 Tryz.f22 (.s .n (.s .n (.s (.r [] [([8],1,[1001,8],70)] (.q 1 .mk .n)) (.j ⟨[1,6,7,8],[],[[6],[8],[1001,8]],[([1000003,14], .deep 61)]⟩ (.s .n (.l ⟨[1,6,7,8,19],[A0 20],[[6],[8],[1001,8]],[([1000003,14], .deep 61)]⟩ [(1,⟨[1,6,7,8],[],[[6],[8],[1001,8]],[([1000003,14], .deep 61)]⟩)] (.s .n (.s .n (.s (.s .n (.r [] [] (.q 5 .au .n))) .n))))) (.j ⟨[6,8],[],[[6],[1001,8],[1000003,14]],[([8], .box [.c (.n_ [1000003,14]), .c (.n_ [1001,8]), .c (.Tv), .c (.Tv), .c (.Tv), .c (.Tv), .c (.Tv),AD,AD,AD,B1,AD,AD,AD,AD, .v (.k (.int .u64)), .c (.Tv),AD,AD])]⟩ .n .n))))) [[2,1,0,0,0,0,0,0,0,0,0,0,0,0,0,0,0,0,0]] [.k (.int .i64), .k (.int .i64), .k (.int .u64)] [.s 36] (fun x=>fK x.1 x.2.1 x.2.2.1) Tryz.func22 (by kernel_rfl)
def Ao (a0:List (Int)):Option (List (Int)):=if a0.length*8<=140737488355328/\a0.length<=maxLen then some a0 else none
theorem K2 {a0 r:List (Int)} (h:Ao a0=some r):Cu Tryz.prog I0 55 [vL (eI .i64) a0] 3 1 (fun len cs=>len=r.length/\cs=r.flatMap (eI .i64)):=KZ Cd (eI .i64) Tryz.func55 Tryz.ntmps55 (Agv .i64) h
def BE:CE TE Tryz.prog I0:=Ze 55 [.k (.u_ 3)] 3 (fun x=>Ao x.1) (fun x r h=>QL (by kernel_rfl) (K2 (r:=r) h))
def Uu (a0:Int):Option (Int×Int):=
 some (KP .u64 (IntKind.u64.wrap ((KP .u64 (IntKind.u64.wrap ((KP .u64 (IntKind.u64.wrap (a0+11400714819323198485)) (Int.fdiv (IntKind.u64.wrap (a0+11400714819323198485)) (2 ^ (min ((30:Int)).toNat (IntKind.u64).bits))))*(13787848793156543929:Int))) (Int.fdiv (IntKind.u64.wrap ((KP .u64 (IntKind.u64.wrap (a0+11400714819323198485)) (Int.fdiv (IntKind.u64.wrap (a0+11400714819323198485)) (2 ^ (min ((30:Int)).toNat (IntKind.u64).bits))))*(13787848793156543929:Int))) (2 ^ (min ((27:Int)).toNat (IntKind.u64).bits))))*(10723151780598845931:Int))) (Int.fdiv (IntKind.u64.wrap ((KP .u64 (IntKind.u64.wrap ((KP .u64 (IntKind.u64.wrap (a0+11400714819323198485)) (Int.fdiv (IntKind.u64.wrap (a0+11400714819323198485)) (2 ^ (min ((30:Int)).toNat (IntKind.u64).bits))))*(13787848793156543929:Int))) (Int.fdiv (IntKind.u64.wrap ((KP .u64 (IntKind.u64.wrap (a0+11400714819323198485)) (Int.fdiv (IntKind.u64.wrap (a0+11400714819323198485)) (2 ^ (min ((30:Int)).toNat (IntKind.u64).bits))))*(13787848793156543929:Int))) (2 ^ (min ((27:Int)).toNat (IntKind.u64).bits))))*(10723151780598845931:Int))) (2 ^ (min ((31:Int)).toNat (IntKind.u64).bits))),IntKind.u64.wrap (a0+11400714819323198485))
def nh:A9:=mC [] 101 Tryz.f101 .n [.k (.int .u64)] [.k (.int .u64), .k (.int .u64)] (fun x=>Uu x.1) Tryz.func101 (by kernel_rfl)
def MI (a0:Int) (a1:Int) (a2:Int) (a3:Int) (a4:Int):Option (Ae):=
 some (⟨a0,a1,a2,a2,a3,false,false,false,false,0,(⟨0,0,0⟩:A3 (Int)),a4,(-1:Int),(-1:Int),false,0,0⟩:Ae)
def Si:A9:=mC [] 24 Tryz.f24 .n [.k (.int .i64), .k (.int .i64), .k (.int .i64), .k (.int .i64), .k (.int .i64)] [.s 70] (fun x=>MI x.1 x.2.1 x.2.2.1 x.2.2.2.1 x.2.2.2.2.1) Tryz.func24 (by kernel_rfl)
def BQ (a0:List (Int)):Option (List (Int)):=if a0.length*8<=140737488355328/\a0.length<=maxLen then some a0 else none
theorem QR {a0 r:List (Int)} (h:BQ a0=some r):Cu Tryz.prog I0 32 [vL (eI .i64) a0] 3 1 (fun len cs=>len=r.length/\cs=r.flatMap (eI .i64)):=by
 refine Cu.of (t:=2) (m:=7) Cd (by kernel_rfl) Tryz.func32 rfl rfl Tryz.ntmps32 ?_;intro w0 av old gv;unfold BQ at h;split at h
 ·rename_i hb;injection h with h;subst h;refine Rg [.a] (sl 7 [(0,vL (eI .i64) a0)] []) (aN) ?_;have hr:app 8 ([]:List (Int)) a0=some a0:=by unfold app;rw [if_pos ⟨by simpa using hb.1,by simpa using hb.2⟩];rfl
  refine Aq.seq ?_;refine Aq.region ?_;refine Rp 1 [.a] (sl 7 [(0,vL (eI .i64) a0),(3,vL (eI .i64) a0)] []) (aN) ?_;refine Run.inl rfl rfl (E4.clip (len:=a0.length) (cs:=a0.flatMap (eI .i64)) 3 1 4 rfl rfl ?_);refine Rw [.a,(.e a0.length (a0.flatMap (eI .i64))), .a] (sl 7 [(0,vL (eI .i64) a0),(2, .c (.n_ [4])),(3,vL (eI .i64) a0),(5,vL (eI .i64) a0),(6, .c (.n_ [4]))] [ur [4] 3 1 (eI .i64) a0]) (aC (show (a0.flatMap (eI .i64)).length =a0.length*1 from Dp (enc:=eI .i64) (n:=1) (Agv .i64) _)<|aC (ap1 hr (eI .i64))<|aC (rW hr)<|aN) ?_;refine Tn ?_;refine Aq.ret ?_;exact⟨.inr rfl, .inl ⟨[4],ur [4] 3 1 (eI .i64) a0,a0.length,by kernel_rfl,by kernel_rfl,by kernel_rfl,Cg _ (fun _=>rfl) _,⟨rfl,rfl⟩⟩⟩
 ·cases h
def LY:CE TE Tryz.prog I0:=Ze 32 [.k (.u_ 3)] 3 (fun x=>BQ x.1) (fun x r h=>QL (by kernel_rfl) (QR (r:=r) h))
def Bp (a0:List (Ap)):Option (List (Ap)):=if a0.length*152<=140737488355328/\a0.length<=maxLen then some a0 else none
theorem Ev {a0 r:List (Ap)} (h:Bp a0=some r):Cu Tryz.prog I0 65 [vL (FI) a0] 61 14 (fun len cs=>len=r.length/\cs=r.flatMap (FI)):=KZ Cd (FI) Tryz.func65 Tryz.ntmps65 qk h
def Fb:CE TE Tryz.prog I0:=Ze 65 [.k (.u_ 61)] 61 (fun x=>Bp x.1) (fun x r h=>QL (by kernel_rfl) (Ev (r:=r) h))
def Bq (a0:List (Ae)):Option (List (Ae)):=if a0.length*128<=140737488355328/\a0.length<=maxLen then some a0 else none
theorem Ew {a0 r:List (Ae)} (h:Bq a0=some r):Cu Tryz.prog I0 67 [vL (Df) a0] 70 19 (fun len cs=>len=r.length/\cs=r.flatMap (Df)):=KZ Cd (Df) Tryz.func67 Tryz.ntmps67 ql h
def Fc:CE TE Tryz.prog I0:=Ze 67 [.k (.u_ 70)] 70 (fun x=>Bq x.1) (fun x r h=>QL (by kernel_rfl) (Ew (r:=r) h))
def BF (a0:List (AE)):Option (List (AE)):=if a0.length*824<=140737488355328/\a0.length<=maxLen then some a0 else none
theorem FJ {a0 r:List (AE)} (h:BF a0=some r):Cu Tryz.prog I0 68 [vL (JO) a0] 126 94 (fun len cs=>len=r.length/\cs=r.flatMap (JO)):=KZ Cd (JO) Tryz.func68 Tryz.ntmps68 yu h
def Gv:CE TE Tryz.prog I0:=Ze 68 [.k (.u_ 126)] 126 (fun x=>BF x.1) (fun x r h=>QL (by kernel_rfl) (FJ (r:=r) h))
def AL (a0:List (BB)):Option (List (BB)):=if a0.length*176<=140737488355328/\a0.length<=maxLen then some a0 else none
theorem Gw {a0 r:List (BB)} (h:AL a0=some r):Cu Tryz.prog I0 73 [vL (Ft) a0] 148 20 (fun len cs=>len=r.length/\cs=r.flatMap (Ft)):=KZ Cd (Ft) Tryz.func73 Tryz.ntmps73 Abx h
def Dt:CE TE Tryz.prog I0:=Ze 73 [.k (.u_ 148)] 148 (fun x=>AL x.1) (fun x r h=>QL (by kernel_rfl) (Gw (r:=r) h))
def BG (a0:List (C8)):Option (List (C8)):=if a0.length*144<=140737488355328/\a0.length<=maxLen then some a0 else none
theorem FK {a0 r:List (C8)} (h:BG a0=some r):Cu Tryz.prog I0 112 [vL (Fm) a0] 184 18 (fun len cs=>len=r.length/\cs=r.flatMap (Fm)):=KZ Cd (Fm) Tryz.func112 Tryz.ntmps112 yt h
def Gx:CE TE Tryz.prog I0:=Ze 112 [.k (.u_ 184)] 184 (fun x=>BG x.1) (fun x r h=>QL (by kernel_rfl) (FK (r:=r) h))
def Br (a0:List (AF)):Option (List (AF)):=if a0.length*560<=140737488355328/\a0.length<=maxLen then some a0 else none
theorem Ex {a0 r:List (AF)} (h:Br a0=some r):Cu Tryz.prog I0 113 [vL (FH) a0] 180 64 (fun len cs=>len=r.length/\cs=r.flatMap (FH)):=KZ Cd (FH) Tryz.func113 Tryz.ntmps113 qj h
def Fd:CE TE Tryz.prog I0:=Ze 113 [.k (.u_ 180)] 180 (fun x=>Br x.1) (fun x r h=>QL (by kernel_rfl) (Ex (r:=r) h))
def Bs (a0:List (C9)):Option (List (C9)):=if a0.length*16<=140737488355328/\a0.length<=maxLen then some a0 else none
theorem Ey {a0 r:List (C9)} (h:Bs a0=some r):Cu Tryz.prog I0 70 [vL (Dg) a0] 143 2 (fun len cs=>len=r.length/\cs=r.flatMap (Dg)):=KZ Cd (Dg) Tryz.func70 Tryz.ntmps70 qm h
def Fe:CE TE Tryz.prog I0:=Ze 70 [.k (.u_ 143)] 143 (fun x=>Bs x.1) (fun x r h=>QL (by kernel_rfl) (Ey (r:=r) h))
def Bh (a0:List (AA)):Option (List (AA)):=if a0.length*768<=140737488355328/\a0.length<=maxLen then some a0 else none
theorem D2 {a0 r:List (AA)} (h:Bh a0=some r):Cu Tryz.prog I0 71 [vL (Et) a0] 129 89 (fun len cs=>len=r.length/\cs=r.flatMap (Et)):=KZ Cd (Et) Tryz.func71 Tryz.ntmps71 mt h
def Ez:CE TE Tryz.prog I0:=Ze 71 [.k (.u_ 129)] 129 (fun x=>Bh x.1) (fun x r h=>QL (by kernel_rfl) (D2 (r:=r) h))
def BH (a0:List (AY)):Option (List (AY)):=if a0.length*80<=140737488355328/\a0.length<=maxLen then some a0 else none
theorem FL {a0 r:List (AY)} (h:BH a0=some r):Cu Tryz.prog I0 72 [vL (JP) a0] 132 6 (fun len cs=>len=r.length/\cs=r.flatMap (JP)):=KZ Cd (JP) Tryz.func72 Tryz.ntmps72 yv h
def Gy:CE TE Tryz.prog I0:=Ze 72 [.k (.u_ 132)] 132 (fun x=>BH x.1) (fun x r h=>QL (by kernel_rfl) (FL (r:=r) h))
def Wn (an5:List (Int)):Option ((List (Int))):=
 some an5
def Uv (agA:Int) (arh:List (Int)):Option ((Int×(List (Int)))⊕((List (Int)))):=
 some (.inl ((Ab (agA+1)),arh))
def Wo (a0:Aa) (agA:Int) (ahN:List (Int)):Option ((Int×(List (Int)))⊕((List (Int)))):=
 (if(decide (agA<(a0.a_.length:Int))) then
  jn (fun(v:(List (Int)))=>Uv agA v) (fun agV=>
  (idx a0.a_ agA).bind fun e13=>
  (if !e13.ahy then
   (app 8 ahN ([agA]:List (Int))).bind fun l15=>
   agV l15
  else
   agV ahN))
 else
  some (.inr ahN))
def MJ (a0:Aa):Option ((List (Int))):=
 jn (fun(v:(List (Int)))=>Wn v) (fun jJ2=>
 (iter (fun(v:Int×(List (Int)))=>Wo a0 v.1 v.2) FU ((0:Int),([]:List (Int)))).bind (fun o0=>jJ2 o0))
def Oo:A9:=mC [] 76 Tryz.f76 (.s .n (.s .n (.j ⟨[],[(3, .c (.c (.n_ [3])))],[],[([3], .row 3)]⟩ (.s .n (.l ⟨[7,8],[(3, .c (.c (.n_ [3]))),A0 9],[],[([3], .row 3)]⟩ [(1,⟨[],[(3, .c (.c (.n_ [3])))],[],[([3], .row 3)]⟩)] (.s .n (.s .n (.j ⟨[7,8,9],[(3, .c (.c (.n_ [3])))],[],[([3], .row 3)]⟩ .n .n))))) .n))) [.s 36] [.k (.u_ 3)] (fun x=>MJ x.1) Tryz.func76 (by kernel_rfl)
def K3 (a0:Int):Option (Bool):=
 some (a0 != a0)
def Wp:A9:=mC [] 162 Tryz.f162 .n [.k (.int .i64)] [.k (.bool)] (fun x=>K3 x.1) Tryz.func162 (by kernel_rfl)
def LZ:Option (Int):=
 some (-1:Int)
def L2 (a0:List (Int)) (a1:Int) (ald:Int):Option ((Int)⊕(Unit⊕Int)):=
 (if(decide (ald<(a0.length:Int))) then
  (idx a0 ald).bind fun e7=>
  (if a1==e7 then
   some (.inr (.inr ald))
  else
   some (.inl (Ab (ald+1))))
 else
  some (.inr (.inl ())))
def EA (a0:List (Int)) (a1:Int):Option (Int):=
 jn (fun(v:Unit)=>LZ) (fun jJ1=>
 (iter (fun(v:Int)=>L2 a0 a1 v) FU (0:Int)).bind (Sum.elim (fun o0=>jJ1 ()) (fun o1=>some o1)))
def Gz:A9:=mC [] 115 Tryz.f115 (.s .n (.j EN (.s .n (.l ⟨[0,1,7],[A0 8],[],[]⟩ [(1,EN),(0,⟨[],[A0 4],[],[]⟩)] .n)) .n)) [.k (.u_ 3), .k (.int .i64)] [.k (.int .i64)] (fun x=>EA x.1 x.2.1) Tryz.func115 (by kernel_rfl)
def ci (axB:Int):Option (Int):=
 some axB
def cj (jJ2:(Int)->Option (Int)):Option (Int):=
 jJ2 (-1:Int)
def HC (a0:Aa) (a1:Int) (agB:Int):Option ((Int)⊕(Unit⊕Int)):=
 (if(decide (agB<(a0.b_.length:Int))) then
  (idx a0.b_ agB).bind fun e9=>
  (if e9.Id==a1 then
   some (.inr (.inr agB))
  else
   some (.inl (Ab (agB+1))))
 else
  some (.inr (.inl ())))
def QS (a0:Aa) (a1:Int):Option (Int):=
 jn (fun(v:Int)=>ci v) (fun jJ2=>
 jn (fun(v:Unit)=>cj jJ2) (fun jJ3=>
 (iter (fun(v:Int)=>HC a0 a1 v) FU (0:Int)).bind (Sum.elim (fun o0=>jJ3 ()) (fun o1=>jJ2 o1))))
def jm:A9:=mC [] 163 Tryz.f163 (.s .n (.s (.r [] [] (.j 3 ⟨[],[A0 8],[],[]⟩ (.s .n (.j ⟨[],[],[[2],[3]],[]⟩ (.s .n (.l ⟨[0,1,7],[A0 8],[[2],[3]],[]⟩ [(1,⟨[],[],[[2],[3]],[]⟩),(0,⟨[],[A0 4],[[2],[3]],[]⟩)] (.s .n (.s .n (.s (.s .n (.s (.r [] [] (.c 5 .n .n)) .n)) .n))))) .n)) .n)) .n)) [.s 36, .k (.int .i64)] [.k (.int .i64)] (fun x=>QS x.1 x.2.1) Tryz.func163 (by kernel_rfl)
def DH (a0:List (Int)):Option ((List (Int))):=
 (app 8 ([]:List (Int)) a0).bind fun l1=>
 some l1
def jp:A9:=mC [] 33 Tryz.f33 .n [.k (.u_ 3)] [.k (.u_ 3)] (fun x=>DH x.1) Tryz.func33 (by kernel_rfl)
end Go.PL
