/- Functions of the program, as partial functions in Lean, with proofs. -/
import Derived.Test.YtiddnfpjgojoaaaGreatDoorPlEdB
import Derived.Test.YtiddnfpjgojoaaaGreatDoorPlEdF0
import Derived.Test.YtiddnfpjgojoaaaGreatDoorPlEdF1
import Derived.Test.YtiddnfpjgojoaaaGreatDoorPlEdF2
import Derived.Test.YtiddnfpjgojoaaaGreatDoorPlEdF4
import Derived.Test.YtiddnfpjgojoaaaGreatDoorPlEdF6
import Derived.Test.YtiddnfpjgojoaaaGreatDoorPlEdF7
namespace Go.PL
open Go Go.RowKit Go.Proofs
set_option maxRecDepth 100000
set_option linter.all false
set_option maxHeartbeats 4000000
attribute [local irreducible] Aj BO Bz
def bD (a0:BZ):Option (Bool):=
 (some (if(a0.Types==2)=true then true else a0.Types==4)).bind fun b7=>
 (gd (b7==false) (N0 a0.Types (1:Int))).bind fun r8=>
 (gd ((b7==false)&&((!r8)==true)) (N0 a0.Types (2:Int))).bind fun r9=>
 (some (if(!r8)=true then !r9 else false)).bind fun b10=>
 (some (if b7=true then true else b10)).bind fun b11=>
 some b11
def X6 (a0:BZ) (i_t3_13:Int):Option ((Int)⊕(Unit⊕Bool)):=
 (if(decide (i_t3_13<(a0.Subs.length:Int)))=true then
  (idx a0.Subs i_t3_13).bind fun e17=>
  (ES e17).bind fun r18=>
  (gd (((!r18)==false)&&((decide (0<i_t3_13))==true)) (idx a0.Subs (Ac (i_t3_13 - 1)))).bind fun e19=>
  (gd (((!r18)==false)&&((decide (0<i_t3_13))==true)) (idx a0.Subs i_t3_13)).bind fun e20=>
  (some (if(decide (0<i_t3_13))=true then !(Op.bytesLess e19 e20)else false)).bind fun b21=>
  (some (if(!r18)=true then true else b21)).bind fun b22=>
  (if b22=true then
   some (.inr (.inr false))
  else
   some (.inl (Ac (i_t3_13+1))))
 else
  some (.inr (.inl ())))
def dO (a0:BZ):Option (Bool):=
 (some (if(decide (a0.Super<0))=true then true else decide (3<a0.Super))).bind fun b1=>
 (some (if b1=true then true else decide (a0.Types<1))).bind fun b2=>
 (some (if b2=true then true else decide (63<a0.Types))).bind fun b3=>
 (some (if b3=true then true else decide (4<(a0.Subs.length:Int)))).bind fun b4=>
 (if b4=true then
  some false
 else
  jn (fun(v:Unit)=>bD a0) (fun jJ6=>
  (iter (fun(v:Int)=>X6 a0 v) FU (0:Int)).bind (Sum.elim (fun o0=>jJ6 ()) (fun o1=>some o1))))
def rZ:CE TE Tryz.prog I0:=AK [I9,br] Ab Ad 9 45 Tryz.f45 (Tryz.f45.body.getD .skip) (.s .n (.s .n (.j ⟨[1],[],[[1]],[]⟩ (.s .n (.l ⟨[1],[(3, .c (.v (.k (.int .i64))))],[[1]],[]⟩ [(1,⟨[1],[],[[1]],[]⟩),(0,⟨[],[(2, .c (.v (.k (.bool))))],[],[]⟩)] .n)) .n))) [.s 67] [.k (.bool)] (fun x=>dO x.1) Tryz.func45 rfl (by kernel_rfl)
def FQ (a0:Ar):Option (Bool):=
 (some (if(decide (a0.Zone<0))=true then true else decide (5<a0.Zone))).bind fun b1=>
 (some (if b1=true then true else decide (a0.Who<0))).bind fun b2=>
 (some (if b2=true then true else decide (2<a0.Who))).bind fun b3=>
 (some (if b3=true then true else decide (a0.Self<0))).bind fun b4=>
 (some (if b4=true then true else decide (2<a0.Self))).bind fun b5=>
 (some (if b5=true then true else decide (a0.Tap<0))).bind fun b6=>
 (some (if b6=true then true else decide (2<a0.Tap))).bind fun b7=>
 (if b7=true then
  some false
 else
  (Ke a0.Types a0.NotTypes (63:Int)).bind fun r9=>
  (gd ((!r9)==false) (Ke a0.Colors a0.NotColors (31:Int))).bind fun r10=>
  (some (if(!r9)=true then true else !r10)).bind fun b11=>
  (if b11=true then
   some false
  else
   (gd ((a0.Sub != ([]:List UInt8))==true) (ES a0.Sub)).bind fun r13=>
   (some (if(a0.Sub != ([]:List UInt8))=true then !r13 else false)).bind fun b14=>
   (some (if b14=true then true else decide (a0.Keys<0))).bind fun b15=>
   (some (if b15=true then true else decide (131071<a0.Keys))).bind fun b16=>
   (if b16=true then
    some false
   else
    (Hr a0.Power).bind fun r18=>
    (gd (r18==true) (Hr a0.Tough)).bind fun r19=>
    (some (if r18=true then r19 else false)).bind fun b20=>
    (gd (b20==true) (Hr a0.Value)).bind fun r21=>
    (some (if b20=true then r21 else false)).bind fun b22=>
    some b22)))
def Ev:CE TE Tryz.prog I0:=AK [gS,I9,gU] Ab Ad 9 79 Tryz.f79 (Tryz.f79.body.getD .skip) .n [.s 92] [.k (.bool)] (fun x=>FQ x.1) Tryz.func79 rfl (by kernel_rfl)
def LV (mask_t3_1:Int):Option ((List UInt8)):=
 (Dy mask_t3_1).bind fun r3=>
 some r3
def GT (a0:Int) (mask_t3_6:Int) (k_t4_7:Int):Option ((Int×Int)⊕(Int)):=
 (if(decide (k_t4_7<a0))=true then
  some (.inl ((Ac (mask_t3_6*(2:Int))),(Ac (k_t4_7+1))))
 else
  some (.inr mask_t3_6))
def Fi (a0:Int):Option ((List UInt8)):=
 jn (fun(v:Int)=>LV v) (fun jJ2=>
 (iter (fun(v:Int×Int)=>GT a0 v.1 v.2) FU ((1:Int),(0:Int))).bind (fun o0=>jJ2 o0))
def X7:CE TE Tryz.prog I0:=AK [LT] Ab Ad 9 172 Tryz.f172 (Tryz.f172.body.getD .skip) (.s .n (.s .n (.j ⟨[],[(3, .c (.v (.k (.int .i64))))],[],[]⟩ (.s .n (.l ⟨[0],[(3, .c (.v (.k (.int .i64)))),(4, .c (.v (.k (.int .i64))))],[],[]⟩ [(1,⟨[],[(3, .c (.v (.k (.int .i64))))],[],[]⟩)] .n)) .n))) [.k (.int .i64)] [.k (.str)] (fun x=>Fi x.1) Tryz.func172 rfl (by kernel_rfl)
def Hi (a0:A6 (Int)):Option ((List UInt8)):=
 (QQ a0).bind fun r1=>
 (Rc r1).bind fun r2=>
 some r2
def X8:CE TE Tryz.prog I0:=AK [lu,lQ] Ab Ad 9 158 Tryz.f158 (Tryz.f158.body.getD .skip) .n [.s 46] [.k (.str)] (fun x=>Hi x.1) Tryz.func158 rfl (by kernel_rfl)
def Ja:Option (Bool):=
 some true
def Jb (a0:Ao) (a1:List (Int)) (a2:Int) (a3:Int) (i_t9_3:Int):Option ((Int)⊕(Unit⊕Unit)):=
 (if(decide (i_t9_3<(a1.length:Int)))=true then
  (idx a1 i_t9_3).bind fun e6=>
  (FO a0 e6).bind fun r7=>
  (some (if(!r7.2)=true then true else r7.1.Zone != a2)).bind fun b8=>
  (some (if(decide (0≤a3))=true then r7.1.Owner != a3 else false)).bind fun b9=>
  (gd ((if b8=true then true else b9)==false) (idx a1 i_t9_3)).bind fun e10=>
  (gd ((if b8=true then true else b9)==false) (Hs a1 e10)).bind fun r11=>
  (some (if(if b8=true then true else b9)=true then true else r11 != 1)).bind fun b12=>
  (if b12=true then
   some (.inr (.inr ()))
  else
   some (.inl (Ac (i_t9_3+1))))
 else
  some (.inr (.inl ())))
def Ew (a0:Ao) (a1:List (Int)) (a2:Int) (a3:Int):Option (Bool):=
 (iter (fun(v:Int)=>Jb a0 a1 a2 a3 v) FU (0:Int)).bind (Sum.elim (fun o0=>Ja) (fun o1=>some false))
def lR (a0:Ao) (a1:List (Int)) (a2:Int) (a3:Int) (r:Bool):Prop:=AQ Tryz.prog I0 52 [vA A4 a0,vL (eI .i64) a1,vI a2,vI a3] (· =vB r)
theorem iD {a0:Ao} {a1:List (Int)} {a2:Int} {a3:Int} {r:Bool} (h:Ew a0 a1 a2 a3=some r):lR a0 a1 a2 a3 r:=by
 refine AQ.bo Ab Tryz.func52 rfl Tryz.ntmps52 [.tmp 8] fun _ _ _ _=>?_
 unfold Ew at h
 refine Gg [.a,.a] (uo [0] [(4,vP [4] (0))] [.e (bx [4] (A4 a0))]) (aN)<|Sj (X:=Unit) (fun v=>(sl 54 [] [])) (fun v=>Ja=some r) ?_ ?_
 ·refine Gg [.a] (u [] [(9,vI 0)]) (aN)<|hB ?_
  obtain⟨n1,y0,h⟩:=bS h
  refine Gi (fun(v:Int)=>(u [] [(9,vI v)])) y0 (wT) ?_
  rintro i0 m1 j0 o0
  replace j0:Jb a0 a1 a2 a3 i0=some m1:=j0
  unfold Jb at j0
  refine hS<|Gg (nA 4) (u [] [(15,vB (decide (i0<(a1.length:Int))))]) (aN)<|iC j0 (fun j0=>?_) (fun j0=>?_)
  ·refine hK<|Tn<|hS<|hB<|hS ?_
   obtain⟨e6,q0,r7,j1,j0⟩:=YG j0
   refine Aj.regN [0,1,2,4,512,513,514,516,517,518,519,526,527,542,543,575,639,767,895,1023,2047,4095,1791,515,5,6,7,14,15,30,31,63,127,255,383,511,3] 4095 [.a,.a,.a,.a,(.v (vI e6)),(.c (.tup [vA Ai r7.1,vB r7.2])),.a,.a,.a,.a,.a,.a] [[10],[4]] (fun n=>⟨[.undef,vL (eI .i64) a1,vI a2,vI a3,vP [4] (0),.undef,.undef,.undef,.undef,vI i0,cond (Nat.testBit n 9) (vP [10] (0)) (.undef),cond (Nat.testBit n 11) (vB r7.2) (.undef),.undef,.undef,.undef,vB (decide (i0<(a1.length:Int))),.undef,.undef,cond (Nat.testBit n 6) (.tup [vA Ai r7.1,vB r7.2]) (.undef),cond (Nat.testBit n 0) (vA A4 a0) (.undef),cond (Nat.testBit n 1) (vL (eI .i64) a1) (.undef),cond (Nat.testBit n 2) (vI i0) (.undef),cond (Nat.testBit n 3) (vX (eI .i64) a1 ((i0).toNat *1)) (.undef),cond (Nat.testBit n 4) (vI e6) (.undef),cond (Nat.testBit n 5) (.tup [vA Ai r7.1,vB r7.2]) (.undef),cond (Nat.testBit n 7) (vA Ai r7.1) (.undef),cond (Nat.testBit n 8) (vB r7.2) (.undef),.undef,.undef,.undef,.undef,.undef,.undef,.undef,.undef,.undef,.undef,.undef,.undef,.undef,.undef,.undef,.undef,.undef,.undef,.undef,.undef,.undef,.undef,.undef,.undef,.undef,.undef,.undef],List.filterMap id [cond (Nat.testBit n 10) (some (bx [10] (Ai r7.1))) (cond (Nat.testBit n 9) (some (bx [10] [Aa 0,Aa 0,Aa 0,Aa 0,Aa 0,.bool false,.bool false,.bool false,.bool false,Aa 0,Aa (((⟨0,0,0⟩:A3 (Int))).x0),Aa (((⟨0,0,0⟩:A3 (Int))).x1),Aa (((⟨0,0,0⟩:A3 (Int))).x2),Aa 0,Aa 0,Aa 0,.bool false,Aa 0,Aa 0])) ((none:Option AM))),some (bx [4] (A4 a0))],[],[]⟩) [[],[],[],[0≤i0∧i0<(a1.length:Int)],[(i0).toNat *1+1≤(a1.flatMap (eI .i64)).length ∧toV false ((i0).toNat *1) 1 (a1.flatMap (eI .i64))=vI e6,(vI e6:V)=vI e6],[Rh a0 e6 r7],[],[True∧0<[V.undef,V.undef].length],[True∧1<[V.undef,V.undef].length],[],[],[]] Ad (by kernel_rfl) (by kernel_rfl) (by decide) (Cb.t (by kernel_rfl)) (by kernel_rfl) ⟨trivial,trivial,trivial,⟨(BS q0),trivial⟩,⟨(Pg q0 (U9 .i64) 0 1 false (vI e6)),rfl,trivial⟩,⟨(Y6 j1),trivial⟩,trivial,⟨⟨trivial,(by decide)⟩,trivial⟩,⟨⟨trivial,(by decide)⟩,trivial⟩,trivial,trivial,trivial,trivial⟩<|Tn<|Gs (u [15,18,19,20,21,22,23,24,25,26] []) ?_
   obtain⟨b8,d1,b9,i1,m0,n0,k1,z0,j0⟩:=pT j0
   obtain⟨p0,t0,j0⟩:=bS j0
   refine Gg [.a,.a,.a,.a,.a,.a,.a,(.v (vB b8)),.a,.a,.a,.a,.a,.a,.a,.a,(.v (vB b9)),.a,.a,.a,.a,.a,.a,(.v (vI m0)),(.c (vI k1)),.a,(.v (vB p0))] (uo [10,11] [(53,vB p0)] [.k 1]) (aG ((!r7.2)==false)<|aH ((!r7.2)==false)<|aF (!r7.2)<|aB d1<|aG (b8==false)<|aG (b8==false)<|aG ((b8==false)&&((decide (0≤a3))==true))<|aH ((b8==false)&&((decide (0≤a3))==true))<|aC (fun hg:(b8==false)=true=>aC (gi (b8==false))<|aC (fun q:(decide (0≤a3))=true=>(gA hg (gT q)))<|aB i1<|aN)<|aF b8<|aC (fun hg:((if b8=true then true else b9)==false)=true=>aC (gi ((if b8=true then true else b9)==false))<|aC (gi ((if b8=true then true else b9)==false))<|aC (Sf n0 hg).1<|aN)<|aC (fun hg:((if b8=true then true else b9)==false)=true=>aC (gi ((if b8=true then true else b9)==false))<|aC (Pg (U7 n0 hg) (U9 .i64) 0 1 false (vI m0))<|aC (Eq.refl (vI m0))<|aN)<|aC (c2 z0 QX)<|aG ((if b8=true then true else b9)==false)<|aF (if b8=true then true else b9)<|aB t0<|aN)<|iC j0 (fun j0=>?_) (fun j0=>?_)
   ·refine Rg [.a] (sl 54 [(8,vB false)] []) (aN)<|hR<|qR<|Tr ?_
    obtain rfl:=o0 _ (sI j0).symm
    replace h:=yX h
    exact Tr<|qR<|Tr<|bQ _ (kB h)
   refine hK<|qN<|Tn<|Ge (nA 3) (u [] [(9,vI (Ac (i0+1))),(16,vI i0),(17,vI (Ac (i0+1)))]) (aN)<|Tn ⟨(Ac (i0+1)),(sI j0).symm,wT⟩
  refine hE<|Te ?_
  obtain rfl:=o0 _ (sI j0).symm
  replace h:=yW h
  refine Te<|qX<|Tn ⟨(),h,wT⟩
 rintro _ k0
 replace k0:Ja=some r:=k0
 unfold Ja at k0
 exact Rg [.a] (sl 54 [(8,vB true)] []) (aN)<|hR<|bQ _ (kB k0)def E_r26_list:CE TE Tryz.prog I0:=⟨52,[.s 31, .k (.lst 3), .k (.int .i64), .k (.int .i64)],[.k (.bool)],fun x=>Ew x.1 x.2.1 x.2.2.1 x.2.2.2.1,fun x r h=>Cz (by kernel_rfl) (iD (r:=r) h)⟩
def X9:Option (Bool):=
 some true
def M3 (a0:List (A1)) (a1:Ao) (i_t5_4:Int):Option ((Int)⊕(Unit⊕Bool)):=
 (if(decide (i_t5_4<(a1.Objects.length:Int)))=true then
  (idx a1.Objects i_t5_4).bind fun e8=>
  (dw e8 (a0.length:Int) (a1.Players.length:Int)).bind fun r9=>
  (some (if(!r9)=true then true else decide (a1.NextId≤e8.Id))).bind fun b10=>
  (some (if b10=true then true else decide (a1.NextStamp≤e8.Stamp))).bind fun b11=>
  (gd ((b11==false)&&((decide (0<i_t5_4))==true)) (idx a1.Objects (Ac (i_t5_4 - 1)))).bind fun e12=>
  (some (if(decide (0<i_t5_4))=true then decide (e8.Id≤e12.Id)else false)).bind fun b13=>
  (some (if b11=true then true else b13)).bind fun b14=>
  (if b14=true then
   some (.inr (.inr false))
  else
   (FP a1 e8).bind fun r16=>
   (if(!r16)=true then
    some (.inr (.inr false))
   else
    some (.inl (Ac (i_t5_4+1)))))
 else
  some (.inr (.inl ())))
def Jc (a0:List (A1)) (a1:Ao):Option (Bool):=
 (if(decide (2048<(a1.Objects.length:Int)))=true then
  some false
 else
  jn (fun(v:Unit)=>X9) (fun jJ2=>
  (iter (fun(v:Int)=>M3 a0 a1 v) FU (0:Int)).bind (Sum.elim (fun o0=>jJ2 ()) (fun o1=>some o1))))
def Za:CE TE Tryz.prog I0:=AK [rY,E_r26_placed] Ab Ad 9 24 Tryz.f24 (Tryz.f24.body.getD .skip) (.s .n (.s .n (.j ⟨[],[],[],[]⟩ (.s .n (.l ⟨[0,3],[(5, .c (.v (.k (.int .i64))))],[[3]],[]⟩ [(1,⟨[],[],[],[]⟩),(0,⟨[],[(4, .c (.v (.k (.bool))))],[],[]⟩)] .n)) .n))) [.k (.lst 73), .s 31] [.k (.bool)] (fun x=>Jc x.1 x.2.1) Tryz.func24 rfl (by kernel_rfl)
def UU (a0:Aw) (a1:Aw):Option (Bool):=
 (some (if(a0.Kind==a1.Kind)=true then a0.Filter==a1.Filter else false)).bind fun b3=>
 (gd (b3==true) (E9 a0.Mods a1.Mods)).bind fun r4=>
 (some (if b3=true then r4 else false)).bind fun b5=>
 (some (if b5=true then a0.Price==a1.Price else false)).bind fun b6=>
 (some (if b6=true then a0.Slow==a1.Slow else false)).bind fun b7=>
 (some (if b7=true then a0.Trigger==a1.Trigger else false)).bind fun b8=>
 (some (if b8=true then a0.May==a1.May else false)).bind fun b9=>
 (gd (b9==true) (Hg a0.Effects a1.Effects)).bind fun r10=>
 (some (if b9=true then r10 else false)).bind fun b11=>
 (some (if b11=true then a0.Replace==a1.Replace else false)).bind fun b12=>
 some b12
def Rj (a0:Aw) (a1:Aw) (i_t5_14:Int):Option ((Int)⊕(Unit⊕Bool)):=
 (if(decide (i_t5_14<(a0.Specs.length:Int)))=true then
  (idx a0.Specs i_t5_14).bind fun e18=>
  (idx a1.Specs i_t5_14).bind fun e19=>
  (if(!(e18==e19))=true then
   some (.inr (.inr false))
  else
   some (.inl (Ac (i_t5_14+1))))
 else
  some (.inr (.inl ())))
def Rk (a0:Aw) (a1:Aw):Option (Bool):=
 (if((a0.Specs.length:Int) != (a1.Specs.length:Int))=true then
  some false
 else
  jn (fun(v:Unit)=>UU a0 a1) (fun jJ2=>
  (iter (fun(v:Int)=>Rj a0 a1 v) FU (0:Int)).bind (Sum.elim (fun o0=>jJ2 ()) (fun o1=>some o1))))
def lS:CE TE Tryz.prog I0:=AK [MN,X4] Ab Ad 9 92 Tryz.f92 (Tryz.f92.body.getD .skip) (.s .n (.s .n (.j ⟨[2,3],[],[[2],[3]],[]⟩ (.s .n (.l ⟨[2,3],[(5, .c (.v (.k (.int .i64))))],[[2],[3]],[]⟩ [(1,⟨[2,3],[],[[2],[3]],[]⟩),(0,⟨[],[(4, .c (.v (.k (.bool))))],[],[]⟩)] .n)) .n))) [.s 113, .s 113] [.k (.bool)] (fun x=>Rk x.1 x.2.1) Tryz.func92 rfl (by kernel_rfl)
def UV (a0:Ao) (a1:Be):Option (Bool):=
 (Fa a1).bind fun r1=>
 (if(!r1)=true then
  some false
 else
  (if(a1.Object==0)=true then
   (De a0 a1.Player).bind fun r4=>
   some r4
  else
   (CT a0 a1.Object).bind fun r5=>
   some r5.2))
def Zb:CE TE Tryz.prog I0:=AK [Fb,If,E_event_fielded] Ab Ad 9 29 Tryz.f29 (Tryz.f29.body.getD .skip) .n [.s 31, .s 34] [.k (.bool)] (fun x=>UV x.1 x.2.1) Tryz.func29 rfl (by kernel_rfl)
def Rl (a0:Ao) (a1:Be):Option (Bool):=
 (CT a0 a1.Object).bind fun r1=>
 (some (if r1.2=true then decide (0≤a1.Counter)else false)).bind fun b2=>
 (some (if b2=true then decide (a1.Counter<3)else false)).bind fun b3=>
 (gd (b3==true) (Fa a1)).bind fun r4=>
 (some (if b3=true then r4 else false)).bind fun b5=>
 some b5
def Ya:CE TE Tryz.prog I0:=AK [E_event_fielded,Fb] Ab Ad 9 33 Tryz.f33 (Tryz.f33.body.getD .skip) .n [.s 31, .s 34] [.k (.bool)] (fun x=>Rl x.1 x.2.1) Tryz.func33 rfl (by kernel_rfl)
def bF (b6_5:Ah):Option (Ah):=
 some b6_5
def bG (a1:AO) (b6_3:Ah):Option (Ah):=
 jn (fun(v:Ah)=>bF v) (fun jJ6=>
 (some (if(a1.Zone==0)=true then true else a1.Zone==5)).bind fun b7=>
 (if b7=true then
  jJ6 ({{b6_3 with Control:=a1.Owner}with Control:=a1.Control})
 else
  jJ6 ({b6_3 with Control:=a1.Owner})))
def bH (a0:List (A1)) (a1:AO) (i_t5_1:Int):Option (Ah):=
 jn (fun(v:Ah)=>bG a1 v) (fun jJ4=>
 (some (if(decide (0≤i_t5_1))=true then decide (i_t5_1<(a0.length:Int))else false)).bind fun b9=>
 (if b9=true then
  (idx a0 i_t5_1).bind fun e11=>
  (D1 e11).bind fun r12=>
  jJ4 r12
 else
  jJ4 (⟨[],(⟨0,0,(⟨0,0,0,0,0⟩:A5 (Int))⟩:Bs),0,(⟨0,0,([]:List (List UInt8))⟩:BZ),0,0,0,([]:List (Aw)),0⟩:Ah)))
def SR (a0:List (A1)) (a1:AO):Option (Ah):=
 jn (fun(v:Int)=>bH a0 a1 v) (fun jJ2=>
 (if(decide (a1.Copy<0))=true then
  jJ2 a1.Card
 else
  jJ2 a1.Copy))
def iE:CE TE Tryz.prog I0:=AK [E_r28_Printed] Ab Ad 9 37 Tryz.f37 (Tryz.f37.body.getD .skip) (.s .n (.s .n (.j ⟨[0,3,4],[(5, .c (.v (.k (.int .i64))))],[[3],[4]],[]⟩ .n (.s .n (.j ⟨[3,4,6],[],[[3],[4]],[([6], .box [.v (.s 70)])]⟩ .n (.s .n (.j ⟨[4,6],[],[[4]],[([6], .box [.v (.s 70)])]⟩ .n .n))))))) [.k (.lst 73), .s 61] [.s 70] (fun x=>SR x.1 x.2.1) Tryz.func37 rfl (by kernel_rfl)
def sa (a0:List (A1)) (a1:AO) (r:Ah):Prop:=AQ Tryz.prog I0 37 [vL B8 a0,vA Ai a1] (· =vA Ag r)
theorem pJ {a0:List (A1)} {a1:AO} {r:Ah} (h:SR a0 a1=some r):sa a0 a1 r:=Cz (by kernel_rfl) (iE.ok (a0,a1,()) r h)
def Le (a0:Ah) (a1:Ar):Option (Bool):=
 (C9 a0.Line.Types (1:Int)).bind fun r1=>
 (gd (((a1.Power.Kind != 0)==true)&&(r1==true)) (Ht a1.Power a0.Power)).bind fun r2=>
 (some (if r1=true then r2 else false)).bind fun b3=>
 (some (if(a1.Power.Kind != 0)=true then !b3 else false)).bind fun b4=>
 (if b4=true then
  some false
 else
  (gd (((a1.Tough.Kind != 0)==true)&&(r1==true)) (Ht a1.Tough a0.Tough)).bind fun r6=>
  (some (if r1=true then r6 else false)).bind fun b7=>
  (some (if(a1.Tough.Kind != 0)=true then !b7 else false)).bind fun b8=>
  (if b8=true then
   some false
  else
   (Oc a0.Cost (0:Int)).bind fun r10=>
   (Ht a1.Value r10).bind fun r11=>
   some r11))
def dP:CE TE Tryz.prog I0:=AK [OI,ic,iA] Ab Ad 9 149 Tryz.f149 (Tryz.f149.body.getD .skip) .n [.s 70, .s 92] [.k (.bool)] (fun x=>Le x.1 x.2.1) Tryz.func149 rfl (by kernel_rfl)
def iG (best_t8_2:Int):Option (Int):=
 some best_t8_2
def Rm (k_t9_7:Int) (best_t8_11:Int):Option ((Int×Int)⊕(Int)):=
 some (.inl (best_t8_11,(Ac (k_t9_7+1))))
def M4 (a1:List (Int)) (r1:(List (Int))) (best_t8_6:Int) (k_t9_7:Int):Option ((Int×Int)⊕(Int)):=
 (if(decide (k_t9_7<(r1.length:Int)))=true then
  jn (fun(v:Int)=>Rm k_t9_7 v) (fun jJ12=>
  (idx r1 k_t9_7).bind fun e13=>
  (Hu a1 e13).bind fun r14=>
  (gd ((decide (best_t8_6<0))==false) (Hu a1 best_t8_6)).bind fun r15=>
  (some (if(decide (best_t8_6<0))=true then true else decide (r14<r15))).bind fun b16=>
  (gd (b16==false) (Hu a1 best_t8_6)).bind fun r17=>
  (gd ((b16==false)&&((r14==r17)==true)) (idx r1 k_t9_7)).bind fun e18=>
  (some (if(r14==r17)=true then decide (e18<best_t8_6)else false)).bind fun b19=>
  (some (if b16=true then true else b19)).bind fun b20=>
  (if b20=true then
   (idx r1 k_t9_7).bind fun e22=>
   jJ12 e22
  else
   jJ12 best_t8_6))
 else
  some (.inr best_t8_6))
def M5 (a0:List (Int)) (a1:List (Int)) (a2:List (List (Bool))):Option (Int):=
 (Hv a0 a2).bind fun r1=>
 jn (fun(v:Int)=>iG v) (fun jJ3=>
 (iter (fun(v:Int×Int)=>M4 a1 r1 v.1 v.2) FU ((-1:Int),(0:Int))).bind (fun o0=>jJ3 o0))
def lV:CE TE Tryz.prog I0:=AK [E_r07_Ready,ij] Ab Ad 9 68 Tryz.f68 (Tryz.f68.body.getD .skip) (.s .n (.s .n (.s .n (.j ⟨[],[(8, .c (.v (.k (.int .i64))))],[],[]⟩ (.s .n (.l ⟨[1,7],[(8, .c (.v (.k (.int .i64)))),(9, .c (.v (.k (.int .i64))))],[],[]⟩ [(1,⟨[],[(8, .c (.v (.k (.int .i64))))],[],[]⟩)] (.s .n (.j ⟨[1,7,9],[(8, .c (.v (.k (.int .i64))))],[],[]⟩ .n .n)))) .n)))) [.k (.lst 3), .k (.lst 3), .k (.lst 52)] [.k (.int .i64)] (fun x=>M5 x.1 x.2.1 x.2.2.1) Tryz.func68 rfl (by kernel_rfl)
def lW (a0:List (Int)) (a1:List (Int)) (a2:List (List (Bool))) (r:Int):Prop:=AQ Tryz.prog I0 68 [vL (eI .i64) a0,vL (eI .i64) a1,vL (eL (eB)) a2] (· =vI r)
theorem iH {a0:List (Int)} {a1:List (Int)} {a2:List (List (Bool))} {r:Int} (h:M5 a0 a1 a2=some r):lW a0 a1 a2 r:=Cz (by kernel_rfl) (lV.ok (a0,a1,a2,()) r h)
end Go.PL
