/- Functions of the program, as partial functions in Lean, with proofs. -/
import Derived.Test.YtiddnfpjgojoaaaGreatDoorPlEdB
import Derived.Test.YtiddnfpjgojoaaaGreatDoorPlEdF0
import Derived.Test.YtiddnfpjgojoaaaGreatDoorPlEdF2
namespace Go.PL
open Go Go.RowKit Go.Proofs
set_option maxRecDepth 100000
set_option linter.all false
set_option maxHeartbeats 4000000
attribute [local irreducible] Aj BO Bz
def Y0 (mask_t3_3:Int):Option (Int):=
 some mask_t3_3
def Ik (bit_t4_9:Int) (i_t5_10:Int) (mask_t3_14:Int):Option ((Int×Int×Int)⊕(Int)):=
 some (.inl (mask_t3_14,(Ac ((2:Int)*bit_t4_9)),(Ac (i_t5_10+1))))
def Il (a0:Bs) (mask_t3_8:Int) (bit_t4_9:Int) (i_t5_10:Int):Option ((Int×Int×Int)⊕(Int)):=
 (if(decide (i_t5_10<5))=true then
  jn (fun(v:Int)=>Ik bit_t4_9 i_t5_10 v) (fun jJ15=>
  (idx a0.Color.l i_t5_10).bind fun e16=>
  (idx a0.Color.l i_t5_10).bind fun e17=>
  (if(decide (0<e17))=true then
   jJ15 (Ac (mask_t3_8+bit_t4_9))
  else
   jJ15 mask_t3_8))
 else
  some (.inr mask_t3_8))
def Im (a0:Bs):Option (Int):=
 (MH a0).bind fun r1=>
 (if(!r1)=true then
  some (0:Int)
 else
  jn (fun(v:Int)=>Y0 v) (fun jJ4=>
  (iter (fun(v:Int×Int×Int)=>Il a0 v.1 v.2.1 v.2.2) FU ((0:Int),(1:Int),(0:Int))).bind (fun o0=>jJ4 o0)))
def dC:CE TE Tryz.prog I0:=AK [MI] Ab Ad 9 100 Tryz.f100 (Tryz.f100.body.getD .skip) (.s .n (.s .n (.s .n (.s .n (.j ⟨[],[(3, .c (.v (.k (.int .i64))))],[],[]⟩ (.s .n (.l ⟨[1],[(3, .c (.v (.k (.int .i64)))),(4, .c (.v (.k (.int .i64)))),(5, .c (.v (.k (.int .i64))))],[[1]],[]⟩ [(1,⟨[],[(3, .c (.v (.k (.int .i64))))],[],[]⟩)] (.s .n (.s (.j ⟨[1,4,5],[(3, .c (.v (.k (.int .i64))))],[[1]],[]⟩ .n .n) .n)))) .n))))) [.s 64] [.k (.int .i64)] (fun x=>Im x.1) Tryz.func100 rfl (by kernel_rfl)
def dD (a0:Bs) (r:Int):Prop:=AQ Tryz.prog I0 100 [vA Gy a0] (· =vI r)
theorem Y1 {a0:Bs} {r:Int} (h:Im a0=some r):dD a0 r:=Cz (by kernel_rfl) (dC.ok (a0,()) r h)
def XZ:Option (Bool):=
 some false
def MX (a0:AU) (a1:Int) (k_t5_3:Int):Option ((Int)⊕(Unit⊕Bool)):=
 (if(decide (k_t5_3<(a0.Mods.length:Int)))=true then
  (idx a0.Mods k_t5_3).bind fun e7=>
  (Dw e7.Kind).bind fun r8=>
  (if(r8==a1)=true then
   some (.inr (.inr true))
  else
   some (.inl (Ac (k_t5_3+1))))
 else
  some (.inr (.inl ())))
def I8 (a0:AU) (a1:Int):Option (Bool):=
 jn (fun(v:Unit)=>XZ) (fun jJ1=>
 (iter (fun(v:Int)=>MX a0 a1 v) FU (0:Int)).bind (Sum.elim (fun o0=>jJ1 ()) (fun o1=>some o1)))
def Y2:CE TE Tryz.prog I0:=AK [MO] Ab Ad 9 39 Tryz.f39 (Tryz.f39.body.getD .skip) (.s .n (.j ⟨[],[],[],[]⟩ (.s .n (.l ⟨[1,2],[(5, .c (.v (.k (.int .i64))))],[[2]],[]⟩ [(1,⟨[],[],[],[]⟩),(0,⟨[],[(4, .c (.v (.k (.bool))))],[],[]⟩)] .n)) .n)) [.s 95, .k (.int .i64)] [.k (.bool)] (fun x=>I8 x.1 x.2.1) Tryz.func39 rfl (by kernel_rfl)
def DY (a0:AD) (a1:Int):Option (Bool):=
 (idx a0.L a1).bind fun e1=>
 (gd (e1.Fixed==false) (idx a0.Begun a1)).bind fun e2=>
 (some (if e1.Fixed=true then true else e2)).bind fun b3=>
 (if b3=true then
  some true
 else
  (idx a0.L a1).bind fun e5=>
  (Kg a0.S e5.Source).bind fun r6=>
  (gd ((decide (r6<0))==false) (idx a0.Blank r6)).bind fun e7=>
  (some (if(decide (r6<0))=true then true else !e7)).bind fun b8=>
  some b8)
def Q8:CE TE Tryz.prog I0:=AK [UM] Ab Ad 9 69 Tryz.f69 (Tryz.f69.body.getD .skip) .n [.s 55, .k (.int .i64)] [.k (.bool)] (fun x=>DY x.1 x.2.1) Tryz.func69 rfl (by kernel_rfl)
def dE (a0:AD) (a1:Int) (r:Bool):Prop:=AQ Tryz.prog I0 69 [vA Av a0,vI a1] (· =vB r)
theorem JA {a0:AD} {a1:Int} {r:Bool} (h:DY a0 a1=some r):dE a0 a1 r:=Cz (by kernel_rfl) (Q8.ok (a0,a1,()) r h)
def Ob (a0:List (Int)) (a1:Int):Option (Bool):=
 (N9 a0 a1).bind fun r1=>
 some (decide (0≤r1))
def bA:CE TE Tryz.prog I0:=AK [ib] Ab Ad 9 73 Tryz.f73 (Tryz.f73.body.getD .skip) .n [.k (.lst 3), .k (.int .i64)] [.k (.bool)] (fun x=>Ob x.1 x.2.1) Tryz.func73 rfl (by kernel_rfl)
def pG (a0:List (Int)) (a1:Int) (r:Bool):Prop:=AQ Tryz.prog I0 73 [vL (eI .i64) a0,vI a1] (· =vB r)
theorem lO {a0:List (Int)} {a1:Int} {r:Bool} (h:Ob a0 a1=some r):pG a0 a1 r:=Cz (by kernel_rfl) (bA.ok (a0,a1,()) r h)
def K7 (a0:AD) (a1:Int):Option (Int):=
 (idx a0.L a1).bind fun e1=>
 (Kg a0.S e1.Source).bind fun r2=>
 (idx a0.L a1).bind fun e3=>
 (some (if e3.Fixed=true then true else decide (r2<0))).bind fun b4=>
 (if b4=true then
  (idx a0.L a1).bind fun e6=>
  some e6.Control
 else
  (idx a0.All r2).bind fun e7=>
  some e7.Control)
def bB:CE TE Tryz.prog I0:=AK [UM] Ab Ad 9 72 Tryz.f72 (Tryz.f72.body.getD .skip) .n [.s 55, .k (.int .i64)] [.k (.int .i64)] (fun x=>K7 x.1 x.2.1) Tryz.func72 rfl (by kernel_rfl)
def pH (a0:AD) (a1:Int) (r:Int):Prop:=AQ Tryz.prog I0 72 [vA Av a0,vI a1] (· =vI r)
theorem X0 {a0:AD} {a1:Int} {r:Int} (h:K7 a0 a1=some r):pH a0 a1 r:=Cz (by kernel_rfl) (bB.ok (a0,a1,()) r h)
def FN (a0:BZ) (a1:List UInt8):Option (Bool):=
 (Hq a0.Subs a1).bind fun r1=>
 some (decide (0≤r1))
def Q9:CE TE Tryz.prog I0:=AK [UJ] Ab Ad 9 147 Tryz.f147 (Tryz.f147.body.getD .skip) .n [.s 67, .k (.str)] [.k (.bool)] (fun x=>FN x.1 x.2.1) Tryz.func147 rfl (by kernel_rfl)
def dF (a0:BZ) (a1:List UInt8) (r:Bool):Prop:=AQ Tryz.prog I0 147 [vA Dl a0,vS a1] (· =vB r)
theorem Y3 {a0:BZ} {a1:List UInt8} {r:Bool} (h:FN a0 a1=some r):dF a0 a1 r:=Cz (by kernel_rfl) (Q9.ok (a0,a1,()) r h)
def VX (a0:Int) (a1:Int):Option (Int):=
 (Cj a0).bind fun r1=>
 (Cj a1).bind fun r2=>
 (Cj (Ac (r1*r2))).bind fun r3=>
 some r3
def pI:CE TE Tryz.prog I0:=AK [I5] Ab Ad 9 193 Tryz.f193 (Tryz.f193.body.getD .skip) .n [.k (.int .i64), .k (.int .i64)] [.k (.int .i64)] (fun x=>VX x.1 x.2.1) Tryz.func193 rfl (by kernel_rfl)
def dG:Option (Bool):=
 some false
def Ra (a0:AU) (a1:Int) (k_t5_3:Int):Option ((Int)⊕(Unit⊕Bool)):=
 (if(decide (k_t5_3<(a0.Mods.length:Int)))=true then
  (idx a0.Mods k_t5_3).bind fun e7=>
  (gd ((e7.Kind==10)==true) (idx a0.Mods k_t5_3)).bind fun e8=>
  (gd ((e7.Kind==10)==true) (Dw e8.Kind)).bind fun r9=>
  (some (if(e7.Kind==10)=true then r9==a1 else false)).bind fun b10=>
  (if b10=true then
   some (.inr (.inr true))
  else
   some (.inl (Ac (k_t5_3+1))))
 else
  some (.inr (.inl ())))
def Kk (a0:AU) (a1:Int):Option (Bool):=
 jn (fun(v:Unit)=>dG) (fun jJ1=>
 (iter (fun(v:Int)=>Ra a0 a1 v) FU (0:Int)).bind (Sum.elim (fun o0=>jJ1 ()) (fun o1=>some o1)))
def iu:CE TE Tryz.prog I0:=AK [MO] Ab Ad 9 75 Tryz.f75 (Tryz.f75.body.getD .skip) (.s .n (.j ⟨[],[],[],[]⟩ (.s .n (.l ⟨[1,2],[(5, .c (.v (.k (.int .i64))))],[[2]],[]⟩ [(1,⟨[],[],[],[]⟩),(0,⟨[],[(4, .c (.v (.k (.bool))))],[],[]⟩)] .n)) .n)) [.s 95, .k (.int .i64)] [.k (.bool)] (fun x=>Kk x.1 x.2.1) Tryz.func75 rfl (by kernel_rfl)
def iv (a0:AU) (a1:Int) (r:Bool):Prop:=AQ Tryz.prog I0 75 [vA AA a0,vI a1] (· =vB r)
theorem dH {a0:AU} {a1:Int} {r:Bool} (h:Kk a0 a1=some r):iv a0 a1 r:=Cz (by kernel_rfl) (iu.ok (a0,a1,()) r h)
def LO (l3_1:List (Int)):Option ((List (Int))):=
 some l3_1
def Kl (k_t4_6:Int) (l3_11:List (Int)):Option ((Int×(List (Int)))⊕((List (Int)))):=
 some (.inl ((Ac (k_t4_6+1)),l3_11))
def GP (a0:List (Int)) (k_t4_6:Int) (l3_7:List (Int)):Option ((Int×(List (Int)))⊕((List (Int)))):=
 (if(decide (k_t4_6<(a0.length:Int)))=true then
  jn (fun(v:(List (Int)))=>Kl k_t4_6 v) (fun jJ12=>
  (idx a0 k_t4_6).bind fun e13=>
  (gd ((decide (0≤e13))==true) (idx a0 k_t4_6)).bind fun e14=>
  (gd ((decide (0≤e13))==true) (K1 l3_7 e14)).bind fun r15=>
  (some (if(decide (0≤e13))=true then !r15 else false)).bind fun b16=>
  (if b16=true then
   (idx a0 k_t4_6).bind fun e18=>
   (app 8 l3_7 ([e18]:List (Int))).bind fun l19=>
   jJ12 l19
  else
   jJ12 l3_7))
 else
  some (.inr l3_7))
def Fg (a0:List (Int)):Option ((List (Int))):=
 jn (fun(v:(List (Int)))=>LO v) (fun jJ2=>
 (iter (fun(v:Int×(List (Int)))=>GP a0 v.1 v.2) FU ((0:Int),([]:List (Int)))).bind (fun o0=>jJ2 o0))
def X1:CE TE Tryz.prog I0:=AK [SK] Ab Ad 9 139 Tryz.f139 (Tryz.f139.body.getD .skip) (.s .n (.s .n (.j ⟨[],[(3, .c (.c (.osl [3])))],[],[([3], .row 3)]⟩ (.s .n (.l ⟨[0],[(3, .c (.c (.osl [3]))),(4, .c (.v (.k (.int .i64))))],[],[([3], .row 3)]⟩ [(1,⟨[],[(3, .c (.c (.osl [3])))],[],[([3], .row 3)]⟩)] (.s .n (.j ⟨[0,4],[(3, .c (.c (.osl [3])))],[],[([3], .row 3)]⟩ .n .n)))) .n))) [.k (.lst 3)] [.k (.lst 3)] (fun x=>Fg x.1) Tryz.func139 rfl (by kernel_rfl)
def X2 (a0:List (Int)) (r:(List (Int))):Prop:=AQ Tryz.prog I0 139 [vL (eI .i64) a0] (· =vL (eI .i64) r)
theorem Vg {a0:List (Int)} {r:(List (Int))} (h:Fg a0=some r):X2 a0 r:=Cz (by kernel_rfl) (X1.ok (a0,()) r h)
def MY (l7_3:List (Int)):Option ((List (Int))):=
 some l7_3
def LP (n_t9_8:Int) (l7_13:List (Int)):Option ((Int×(List (Int)))⊕((List (Int)))):=
 some (.inl ((Ac (n_t9_8+1)),l7_13))
def LR (k_t10_18:Int) (l7_23:List (Int)):Option ((Int×(List (Int)))⊕((List (Int)))):=
 some (.inl ((Ac (k_t10_18+1)),l7_23))
def GQ (a0:List (Int)) (a1:List (List (Bool))) (n_t9_8:Int) (k_t10_18:Int) (l7_19:List (Int)):Option ((Int×(List (Int)))⊕((List (Int)))):=
 (if(decide (k_t10_18<(a0.length:Int)))=true then
  jn (fun(v:(List (Int)))=>LR k_t10_18 v) (fun jJ24=>
  (idx l7_19 n_t9_8).bind fun e25=>
  (idx l7_19 n_t9_8).bind fun e26=>
  (idx a0 k_t10_18).bind fun e27=>
  (GD a1 e26 e27).bind fun r28=>
  (gd (r28==true) (idx a0 k_t10_18)).bind fun e29=>
  (gd (r28==true) (K1 l7_19 e29)).bind fun r30=>
  (some (if r28=true then !r30 else false)).bind fun b31=>
  (if b31=true then
   (idx a0 k_t10_18).bind fun e33=>
   (app 8 l7_19 ([e33]:List (Int))).bind fun l34=>
   jJ24 l34
  else
   jJ24 l7_19))
 else
  some (.inr l7_19))
def GR (a0:List (Int)) (a1:List (List (Bool))) (n_t9_8:Int) (l7_9:List (Int)):Option ((Int×(List (Int)))⊕((List (Int)))):=
 (if(decide (n_t9_8<(l7_9.length:Int)))=true then
  jn (fun(v:(List (Int)))=>LP n_t9_8 v) (fun jJ14=>
  (iter (fun(v:Int×(List (Int)))=>GQ a0 a1 n_t9_8 v.1 v.2) FU ((0:Int),l7_9)).bind (fun o0=>jJ14 o0))
 else
  some (.inr l7_9))
def MZ (a0:List (Int)) (a1:List (List (Bool))) (l7_1:List (Int)):Option ((List (Int))):=
 jn (fun(v:(List (Int)))=>MY v) (fun jJ4=>
 (iter (fun(v:Int×(List (Int)))=>GR a0 a1 v.1 v.2) FU ((0:Int),l7_1)).bind (fun o0=>jJ4 o0))
def LS (k_t8_38:Int) (l7_43:List (Int)):Option ((Int×(List (Int)))⊕((List (Int)))):=
 some (.inl ((Ac (k_t8_38+1)),l7_43))
def GS (a0:List (Int)) (a1:List (List (Bool))) (a2:Int) (k_t8_38:Int) (l7_39:List (Int)):Option ((Int×(List (Int)))⊕((List (Int)))):=
 (if(decide (k_t8_38<(a0.length:Int)))=true then
  jn (fun(v:(List (Int)))=>LS k_t8_38 v) (fun jJ44=>
  (idx a0 k_t8_38).bind fun e45=>
  (GD a1 a2 e45).bind fun r46=>
  (if r46=true then
   (idx a0 k_t8_38).bind fun e48=>
   (app 8 l7_39 ([e48]:List (Int))).bind fun l49=>
   jJ44 l49
  else
   jJ44 l7_39))
 else
  some (.inr l7_39))
def DZ (a0:List (Int)) (a1:List (List (Bool))) (a2:Int):Option ((List (Int))):=
 jn (fun(v:(List (Int)))=>MZ a0 a1 v) (fun jJ2=>
 (iter (fun(v:Int×(List (Int)))=>GS a0 a1 a2 v.1 v.2) FU ((0:Int),([]:List (Int)))).bind (fun o0=>jJ2 o0))
def Y4:CE TE Tryz.prog I0:=AK [XQ,SK] Ab Ad 9 142 Tryz.f142 (Tryz.f142.body.getD .skip) (.s .n (.s .n (.j ⟨[0,1],[(7, .c (.c (.osl [7])))],[],[([7], .row 3)]⟩ (.s .n (.l ⟨[0,1,2],[(7, .c (.c (.osl [7]))),(8, .c (.v (.k (.int .i64))))],[],[([7], .row 3)]⟩ [(1,⟨[0,1],[(7, .c (.c (.osl [7])))],[],[([7], .row 3)]⟩)] (.s .n (.j ⟨[0,1,2,8],[(7, .c (.c (.osl [7])))],[],[([7], .row 3)]⟩ .n .n)))) (.j ⟨[],[(7, .c (.c (.osl [7])))],[],[([7], .row 3)]⟩ (.s .n (.l ⟨[0,1],[(7, .c (.c (.osl [7]))),(9, .c (.v (.k (.int .i64))))],[],[([7], .row 3)]⟩ [(3,⟨[],[(7, .c (.c (.osl [7])))],[],[([7], .row 3)]⟩)] (.s .n (.j ⟨[0,1,9],[(7, .c (.c (.osl [7])))],[],[([7], .row 3)]⟩ (.s .n (.l ⟨[0,1,9],[(7, .c (.c (.osl [7]))),(10, .c (.v (.k (.int .i64))))],[],[([7], .row 3)]⟩ [(5,⟨[0,1,9],[(7, .c (.c (.osl [7])))],[],[([7], .row 3)]⟩)] (.s .n (.j ⟨[0,1,9,10],[(7, .c (.c (.osl [7])))],[],[([7], .row 3)]⟩ .n .n)))) .n)))) .n)))) [.k (.lst 3), .k (.lst 52), .k (.int .i64)] [.k (.lst 3)] (fun x=>DZ x.1 x.2.1 x.2.2.1) Tryz.func142 rfl (by kernel_rfl)
def Y5 (a0:List (Int)) (a1:List (List (Bool))) (a2:Int) (r:(List (Int))):Prop:=AQ Tryz.prog I0 142 [vL (eI .i64) a0,vL (eL (eB)) a1,vI a2] (· =vL (eI .i64) r)
theorem X3 {a0:List (Int)} {a1:List (List (Bool))} {a2:Int} {r:(List (Int))} (h:DZ a0 a1 a2=some r):Y5 a0 a1 a2 r:=Cz (by kernel_rfl) (Y4.ok (a0,a1,a2,()) r h)
end Go.PL
