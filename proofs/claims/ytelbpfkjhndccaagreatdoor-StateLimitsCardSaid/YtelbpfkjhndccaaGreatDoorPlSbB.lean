/- Functions of the program, as partial functions in Lean, with proofs. -/
import Derived.Test.YtelbpfkjhndccaaGreatDoorPlPktoPlPx
import Derived.Test.YtelbpfkjhndccaaGreatDoorRows
import Derived.Test.YtelbpfkjhndccaaGreatDoorPlShelf
import Derived.Test.YtelbpfkjhndccaaGreatDoorPlPktoPlPx
namespace Go.PL
open Go Go.RowKit Go.Proofs
set_option maxRecDepth 100000
set_option linter.all false
set_option maxHeartbeats 4000000
abbrev Aa:Int→C:=C.int .i64
theorem DV:Tryz.prog.follows .mixedOrders =true:=by kernel_rfl
def Xg:List UInt8:=[112,108,117,115]
def Xh:List UInt8:=[109,105,110,117,115]
def Xi:List UInt8:=[99,104,97,114,103,101]
def I7:List (List UInt8):=[Xg,Xh,Xi]
def KL:List UInt8:=[97,109,98,101,114]
def KM:List UInt8:=[99,111,98,97,108,116]
def KN:List UInt8:=[106,101,116]
def KO:List UInt8:=[114,117,98,121]
def KP:List UInt8:=[101,109,101,114,97,108,100]
def Ee:List (List UInt8):=[KL,KM,KN,KO,KP]
def GS (w:World) (g:Nat) (tab:List (List UInt8)):Prop:= ∃ T fz,w.heap[g]? =some (.cells (tab.map fun s=>Value.string ⟨s.toArray⟩).toArray T fz)
def I0 (w:World):Prop:=Lib.TabIs Tryz.prog w "internal/strconv.uint64pow10" .u64 Lib.pow10Tab∧w.ShapedOpen Tryz.prog∧GS w 0 I7∧GS w 1 Ee
theorem GS.stable {w w':World} {g:Nat} {tab:List (List UInt8)} (h2: ∀ b,b<w.heap.size→w'.heap[b]? =w.heap[b]?) (h:GS w g tab):GS w' g tab:=by
 obtain⟨T,fz,h⟩:=h
 by_cases hlt:g<w.heap.size
 ·exact⟨T,fz,by rw [h2 g hlt];exact h⟩
 ·rw [Array.getElem?_eq_none (by omega)]at h;cases h
theorem PJ {P:Program} {w w':World} (h:w.ShapedOpen P) (h2: ∀ b,b<w.heap.size→w'.heap[b]? =w.heap[b]?):w'.ShapedOpen P:=by
 have lt_of_some: ∀ {i:Nat} {o:Obj},w.heap[i]? =some o→i<w.heap.size:=by
  intro i o ho
  rcases Nat.lt_or_ge i w.heap.size with h' | h'
  ·exact h'
  ·simp [Array.getElem?_eq_none h']at ho
 refine⟨fun g zero t hg hz=>?_,fun k hk1 hk2=>?_⟩
 ·obtain⟨cs,h1,h3,h4⟩:=h.1 g zero t hg hz
  exact⟨cs,(h2 g (lt_of_some h1)).trans h1,h3,fun hb=>Row.ok_of_shape (fun b x hx=>by
   unfold World.shape? at hx ⊢
   by_cases hlt:b<w.heap.size
   ·rw [h2 b hlt];exact hx
   ·rw [Array.getElem?_eq_none (by omega)]at hx;cases hx) (h4 hb)⟩
 ·obtain⟨o,o₀,h1,h3,h4⟩:=h.2 k hk1 hk2
  exact⟨o,o₀,(h2 k (lt_of_some h1)).trans h1,h3,h4⟩
theorem am {P:Program} {w w':World} {n:String} {cs:Array Value} (h2: ∀ b,b<w.heap.size→w'.heap[b]? =w.heap[b]?) (h:w.var? P n=some cs):w'.var? P n=some cs:=by
 unfold World.var? at h ⊢
 cases hg:P.globalNamed n with
 | none=>rw [hg]at h;cases h
 | some g=>
   rw [hg]at h
   simp only [Option.bind_some]at h ⊢
   by_cases hlt:g<w.heap.size
   ·rw [h2 g hlt];exact h
   ·rw [Array.getElem?_eq_none (by omega)]at h;cases h
theorem Ag:QK I0:=fun _ _ h _ h2=>⟨am h2 h.1,PJ h.2.1 h2,GS.stable h2 h.2.2.1,GS.stable h2 h.2.2.2⟩
theorem YM:T4 I0 0 I7:=fun w h=>h.2.2.1
theorem QT:T4 I0 1 Ee:=fun w h=>h.2.2.2
def YN (n:Int):Option (List UInt8):=if -9223372036854775808≤n∧n≤9223372036854775807 then some (Lib.itoa n)else none
theorem kF {n:Int} {r:List UInt8} (h:YN n=some r):Ah Tryz.prog I0 185 [vI n] (· =vS r):=by
 unfold YN at h
 split at h
 ·rename_i hb
  injection h with h;subst h
  refine⟨by kernel_rfl,fun w vs av hI hav hr=>?_⟩
  simp only [Bc]at hr
  obtain⟨v,r,h1,h2,rfl⟩:=hr
  obtain rfl:vs= #[v]:=Array.ext' h1
  simp only [Ap,As]at h2
  subst h2
  refine(Tryz.strconv_Itoa n hb.1 hb.2 w hI.1).mono fun e w' ⟨he,k,os,hw⟩=>?_
  subst hw
  refine⟨_,_,he,rfl,rfl,?_,?_⟩
  ·simp only [Ap,As]
  ·refine⟨rfl,rfl,rfl,by simp [Sort.grow],fun i hi=>?_⟩
   show ((w.drewN k).heap ++os)[i]? =_
   rw [Array.getElem?_append_left (by show i<w.heap.size;omega)]
   rfl
 ·cases h
def PK (l:List (List UInt8)) (sep:List UInt8):Option (List UInt8):=if l.length≤140737488355328∧(Lib.join l sep).length ≤140737488355328 then some (Lib.join l sep)else none
theorem YO {w:World} {G:B0} {b:Nat}: ∀ {l:List (List UInt8)} {o:Nat},A0 w G (l.flatMap eS) b o→ ∀ (j:Nat) x,(l.map fun s=>(⟨s.toArray⟩:ByteArray))[j]? =some x→w.cell? ⟨b,o+j,none⟩=some (.string x)
 | [],_,_,j,x,h=>by simp at h
 | s::l,o,h,j,x,hx=>by
   rw [List.flatMap_cons]at h
   simp only [eS,List.cons_append,List.nil_append,A0,As]at h
   obtain⟨⟨v,h1,h2⟩,h3⟩:=h
   subst h2
   cases j with
   | zero=>simp at hx;subst hx;simpa using h1
   | succ j=>simpa [Nat.add_assoc,Nat.add_comm 1 j] using YO h3 j x (by simpa using hx)
theorem Xj {l:List (List UInt8)} {sep r:List UInt8} (h:PK l sep=some r):Ah Tryz.prog I0 145 [vL eS l,vS sep] (· =vS r):=by
 unfold PK at h
 split at h
 ·rename_i hb
  injection h with h;subst h
  refine⟨by kernel_rfl,fun w vs av hI hav hr=>?_⟩
  simp only [Bc]at hr
  obtain⟨v,r,h1,h2,u,r2,rfl,h3,rfl⟩:=hr
  obtain rfl:vs= #[v,u]:=Array.ext' h1
  simp only [Ap,As]at h2 h3
  subst h3
  obtain⟨_,a,cap,rfl,hc1,hc2,hc3,hc4⟩:=h2
  have e:(l.map fun s=>(⟨s.toArray⟩:ByteArray)).map (·.data.toList)=l:=by rw [List.map_map];exact(List.map_congr_left (fun _ _=>rfl)).trans (List.map_id _)
  rcases hc4 with hc4 | ⟨b,o,rfl,_,hb2,hrow⟩
  ·have hl:l=[]:=List.length_eq_zero_iff.1 hc4
   subst hl
   refine(Tryz.strings_Join_none a cap ⟨sep.toArray⟩ w).mono fun e w' ⟨he,hw⟩=>?_
   subst hw
   exact⟨_,_,he,rfl,rfl,by simp only [Ap,As];rfl,Below.refl _ _⟩
  ·have:=Tryz.strings_Join b o cap (l.map fun s=>(⟨s.toArray⟩:ByteArray)) ⟨sep.toArray⟩ w (YO hrow) hb2 (by simpa using hb.1) (by simpa using hc1) (by rw [e];exact hb.2)
   rw [List.length_map]at this
   refine this.mono fun e' w' ⟨he,hw⟩=>?_
   rw [e]at he
   exact⟨_,_,he,rfl,rfl,by simp only [Ap,As],hw⟩
 ·cases h
def Mn (s:List UInt8) (n:Int):Option (List UInt8):=if 0≤n∧n≤9223372036854775807∧s.length*n.toNat≤140737488355328 then some (Lib.repeatL s n.toNat)else none
theorem YP {s:List UInt8} {n:Int} {r:List UInt8} (h:Mn s n=some r):Ah Tryz.prog I0 184 [vS s,vI n] (· =vS r):=by
 unfold Mn at h
 split at h
 ·rename_i hb
  injection h with h;subst h
  refine⟨by kernel_rfl,fun w vs av hI hav hr=>?_⟩
  simp only [Bc]at hr
  obtain⟨v,r,h1,h2,u,r2,rfl,h3,rfl⟩:=hr
  obtain rfl:vs= #[v,u]:=Array.ext' h1
  simp only [Ap,As]at h2 h3
  subst h2 h3
  have hn:(Value.int .i64 n)= .int .i64 (n.toNat:Nat):=by rw [Int.toNat_of_nonneg hb.1]
  rw [hn]
  refine(Tryz.strings_Repeat ⟨s.toArray⟩ n.toNat w (by omega) (by simpa [ByteArray.size] using hb.2.2)).mono fun e w' ⟨he,hw⟩=>?_
  exact⟨_,_,he,rfl,rfl,by simp only [Ap,As],hw⟩
 ·cases h
def LX (s p:List UInt8):Option Bool:=if s.length<4294967281 then some (Lib.contains s p)else none
theorem ao {s p:List UInt8} {r:Bool} (h:LX s p=some r):Ah Tryz.prog I0 222 [vS s,vS p] (· =vB r):=by
 unfold LX at h
 split at h
 ·rename_i hb
  injection h with h;subst h
  refine⟨by kernel_rfl,fun w vs av hI hav hr=>?_⟩
  simp only [Bc]at hr
  obtain⟨v,r,h1,h2,u,r2,rfl,h3,rfl⟩:=hr
  obtain rfl:vs= #[v,u]:=Array.ext' h1
  simp only [Ap,As]at h2 h3
  subst h2 h3
  refine(Tryz.strings_Contains_shaped ⟨s.toArray⟩ ⟨p.toArray⟩ w hI.2.1 (by simpa [ByteArray.size] using hb)).mono fun e w' ⟨he,hw⟩=>?_
  subst hw
  exact⟨_,_,he,rfl,rfl,by simp only [Ap,As],Below.refl _ _⟩
 ·cases h
structure A2 (α:Type) where
 x0:α
 x1:α
 deriving DecidableEq,Inhabited
def A2.l {α:Type} (a:A2 α):List α:=[a.x0,a.x1]
def pv {α:Type} (e:α→List C) (a:A2 α):List C:=a.l.flatMap e
def A2.set {α:Type} (a:A2 α) (i:Nat) (v:α):A2 α:=⟨if i=0 then v else a.x0,if i=1 then v else a.x1⟩
structure A3 (α:Type) where
 x0:α
 x1:α
 x2:α
 deriving DecidableEq,Inhabited
def A3.l {α:Type} (a:A3 α):List α:=[a.x0,a.x1,a.x2]
def Vk {α:Type} (e:α→List C) (a:A3 α):List C:=a.l.flatMap e
def A3.set {α:Type} (a:A3 α) (i:Nat) (v:α):A3 α:=⟨if i=0 then v else a.x0,if i=1 then v else a.x1,if i=2 then v else a.x2⟩
structure A4 (α:Type) where
 x0:α
 x1:α
 x2:α
 x3:α
 deriving DecidableEq,Inhabited
def A4.l {α:Type} (a:A4 α):List α:=[a.x0,a.x1,a.x2,a.x3]
def pw {α:Type} (e:α→List C) (a:A4 α):List C:=a.l.flatMap e
def A4.set {α:Type} (a:A4 α) (i:Nat) (v:α):A4 α:=⟨if i=0 then v else a.x0,if i=1 then v else a.x1,if i=2 then v else a.x2,if i=3 then v else a.x3⟩
structure A5 (α:Type) where
 x0:α
 x1:α
 x2:α
 x3:α
 x4:α
 deriving DecidableEq,Inhabited
def A5.l {α:Type} (a:A5 α):List α:=[a.x0,a.x1,a.x2,a.x3,a.x4]
def dW {α:Type} (e:α→List C) (a:A5 α):List C:=a.l.flatMap e
def A5.set {α:Type} (a:A5 α) (i:Nat) (v:α):A5 α:=⟨if i=0 then v else a.x0,if i=1 then v else a.x1,if i=2 then v else a.x2,if i=3 then v else a.x3,if i=4 then v else a.x4⟩
structure A6 (α:Type) where
 x0:α
 x1:α
 x2:α
 x3:α
 x4:α
 x5:α
 deriving DecidableEq,Inhabited
def A6.l {α:Type} (a:A6 α):List α:=[a.x0,a.x1,a.x2,a.x3,a.x4,a.x5]
def T6 {α:Type} (e:α→List C) (a:A6 α):List C:=a.l.flatMap e
def A6.set {α:Type} (a:A6 α) (i:Nat) (v:α):A6 α:=⟨if i=0 then v else a.x0,if i=1 then v else a.x1,if i=2 then v else a.x2,if i=3 then v else a.x3,if i=4 then v else a.x4,if i=5 then v else a.x5⟩
structure g0 (α:Type) where
 x0:α
 x1:α
 x2:α
 x3:α
 x4:α
 x5:α
 x6:α
 x7:α
 x8:α
 x9:α
 x10:α
 x11:α
 x12:α
 x13:α
 x14:α
 x15:α
 x16:α
 x17:α
 x18:α
 x19:α
 x20:α
 x21:α
 x22:α
 x23:α
 x24:α
 x25:α
 x26:α
 deriving DecidableEq,Inhabited
def g0.l {α:Type} (a:g0 α):List α:=[a.x0,a.x1,a.x2,a.x3,a.x4,a.x5,a.x6,a.x7,a.x8,a.x9,a.x10,a.x11,a.x12,a.x13,a.x14,a.x15,a.x16,a.x17,a.x18,a.x19,a.x20,a.x21,a.x22,a.x23,a.x24,a.x25,a.x26]
def mG {α:Type} (e:α→List C) (a:g0 α):List C:=a.l.flatMap e
def g0.set {α:Type} (a:g0 α) (i:Nat) (v:α):g0 α:=⟨if i=0 then v else a.x0,if i=1 then v else a.x1,if i=2 then v else a.x2,if i=3 then v else a.x3,if i=4 then v else a.x4,if i=5 then v else a.x5,if i=6 then v else a.x6,if i=7 then v else a.x7,if i=8 then v else a.x8,if i=9 then v else a.x9,if i=10 then v else a.x10,if i=11 then v else a.x11,if i=12 then v else a.x12,if i=13 then v else a.x13,if i=14 then v else a.x14,if i=15 then v else a.x15,if i=16 then v else a.x16,if i=17 then v else a.x17,if i=18 then v else a.x18,if i=19 then v else a.x19,if i=20 then v else a.x20,if i=21 then v else a.x21,if i=22 then v else a.x22,if i=23 then v else a.x23,if i=24 then v else a.x24,if i=25 then v else a.x25,if i=26 then v else a.x26⟩
structure A1 where
 Generic:Int
 X:Int
 Color:A5 (Int)
 deriving DecidableEq,Inhabited
def Fj (x:A1):List C:=[Aa ((x).Generic),Aa ((x).X),Aa (((x).Color).x0),Aa (((x).Color).x1),Aa (((x).Color).x2),Aa (((x).Color).x3),Aa (((x).Color).x4)]
structure bP where
 Super:Int
 Types:Int
 Subs:List (List UInt8)
 deriving DecidableEq,Inhabited
def fa (x:bP):List C:=[Aa ((x).Super),Aa ((x).Types), .sl ((x).Subs).length (((x).Subs).flatMap (eS))]
structure Ae where
 Kind:Int
 N:Int
 deriving DecidableEq,Inhabited
def Hh (x:Ae):List C:=[Aa ((x).Kind),Aa ((x).N)]
structure Af where
 Zone:Int
 Who:Int
 Self:Int
 Types:Int
 NotTypes:Int
 Colors:Int
 NotColors:Int
 Sub:List UInt8
 Keys:Int
 Tap:Int
 Power:Ae
 Tough:Ae
 Value:Ae
 deriving DecidableEq,Inhabited
def A7 (x:Af):List C:=[Aa ((x).Zone),Aa ((x).Who),Aa ((x).Self),Aa ((x).Types),Aa ((x).NotTypes),Aa ((x).Colors),Aa ((x).NotColors), .str ((x).Sub),Aa ((x).Keys),Aa ((x).Tap),Aa (((x).Power).Kind),Aa (((x).Power).N),Aa (((x).Tough).Kind),Aa (((x).Tough).N),Aa (((x).Value).Kind),Aa (((x).Value).N)]
structure Bx where
 Kind:Int
 N:Int
 M:Int
 Sub:List UInt8
 Filter:Af
 deriving DecidableEq,Inhabited
def AM (x:Bx):List C:=[Aa ((x).Kind),Aa ((x).N),Aa ((x).M), .str ((x).Sub),Aa (((x).Filter).Zone),Aa (((x).Filter).Who),Aa (((x).Filter).Self),Aa (((x).Filter).Types),Aa (((x).Filter).NotTypes),Aa (((x).Filter).Colors),Aa (((x).Filter).NotColors), .str (((x).Filter).Sub),Aa (((x).Filter).Keys),Aa (((x).Filter).Tap),Aa ((((x).Filter).Power).Kind),Aa ((((x).Filter).Power).N),Aa ((((x).Filter).Tough).Kind),Aa ((((x).Filter).Tough).N),Aa ((((x).Filter).Value).Kind),Aa ((((x).Filter).Value).N)]
theorem Mo (x:Bx):(AM x).length =20:=rfl
structure CG where
 Mana:A1
 Tap:Bool
 Sacrifice:Bool
 Life:Int
 deriving DecidableEq,Inhabited
def I8 (x:CG):List C:=[Aa (((x).Mana).Generic),Aa (((x).Mana).X),Aa ((((x).Mana).Color).x0),Aa ((((x).Mana).Color).x1),Aa ((((x).Mana).Color).x2),Aa ((((x).Mana).Color).x3),Aa ((((x).Mana).Color).x4), .bool ((x).Tap), .bool ((x).Sacrifice),Aa ((x).Life)]
structure By where
 When:Int
 Who:Int
 Filter:Af
 deriving DecidableEq,Inhabited
def GW (x:By):List C:=[Aa ((x).When),Aa ((x).Who),Aa (((x).Filter).Zone),Aa (((x).Filter).Who),Aa (((x).Filter).Self),Aa (((x).Filter).Types),Aa (((x).Filter).NotTypes),Aa (((x).Filter).Colors),Aa (((x).Filter).NotColors), .str (((x).Filter).Sub),Aa (((x).Filter).Keys),Aa (((x).Filter).Tap),Aa ((((x).Filter).Power).Kind),Aa ((((x).Filter).Power).N),Aa ((((x).Filter).Tough).Kind),Aa ((((x).Filter).Tough).N),Aa ((((x).Filter).Value).Kind),Aa ((((x).Filter).Value).N)]
structure C0 where
 Player:Bool
 Object:Bool
 Filter:Af
 deriving DecidableEq,Inhabited
def Bj (x:C0):List C:=[.bool ((x).Player), .bool ((x).Object),Aa (((x).Filter).Zone),Aa (((x).Filter).Who),Aa (((x).Filter).Self),Aa (((x).Filter).Types),Aa (((x).Filter).NotTypes),Aa (((x).Filter).Colors),Aa (((x).Filter).NotColors), .str (((x).Filter).Sub),Aa (((x).Filter).Keys),Aa (((x).Filter).Tap),Aa ((((x).Filter).Power).Kind),Aa ((((x).Filter).Power).N),Aa ((((x).Filter).Tough).Kind),Aa ((((x).Filter).Tough).N),Aa ((((x).Filter).Value).Kind),Aa ((((x).Filter).Value).N)]
theorem PM (x:C0):(Bj x).length =18:=rfl
structure IM where
 Kind:Int
 N:Int
 Filter:Af
 deriving DecidableEq,Inhabited
def J6 (x:IM):List C:=[Aa ((x).Kind),Aa ((x).N),Aa (((x).Filter).Zone),Aa (((x).Filter).Who),Aa (((x).Filter).Self),Aa (((x).Filter).Types),Aa (((x).Filter).NotTypes),Aa (((x).Filter).Colors),Aa (((x).Filter).NotColors), .str (((x).Filter).Sub),Aa (((x).Filter).Keys),Aa (((x).Filter).Tap),Aa ((((x).Filter).Power).Kind),Aa ((((x).Filter).Power).N),Aa ((((x).Filter).Tough).Kind),Aa ((((x).Filter).Tough).N),Aa ((((x).Filter).Value).Kind),Aa ((((x).Filter).Value).N)]
structure Bv where
 Kind:Int
 N:Int
 Counter:Int
 Filter:Af
 deriving DecidableEq,Inhabited
def BK (x:Bv):List C:=[Aa ((x).Kind),Aa ((x).N),Aa ((x).Counter),Aa (((x).Filter).Zone),Aa (((x).Filter).Who),Aa (((x).Filter).Self),Aa (((x).Filter).Types),Aa (((x).Filter).NotTypes),Aa (((x).Filter).Colors),Aa (((x).Filter).NotColors), .str (((x).Filter).Sub),Aa (((x).Filter).Keys),Aa (((x).Filter).Tap),Aa ((((x).Filter).Power).Kind),Aa ((((x).Filter).Power).N),Aa ((((x).Filter).Tough).Kind),Aa ((((x).Filter).Tough).N),Aa ((((x).Filter).Value).Kind),Aa ((((x).Filter).Value).N)]
structure Aw where
 Op:Int
 Ref:IM
 Amount:Bv
 Counter:Int
 Zone:Int
 Card:List UInt8
 Filter:Af
 Pool:A6 (Int)
 Mods:List (Bx)
 deriving DecidableEq,Inhabited
def Az (x:Aw):List C:=[Aa ((x).Op),Aa (((x).Ref).Kind),Aa (((x).Ref).N),Aa ((((x).Ref).Filter).Zone),Aa ((((x).Ref).Filter).Who),Aa ((((x).Ref).Filter).Self),Aa ((((x).Ref).Filter).Types),Aa ((((x).Ref).Filter).NotTypes),Aa ((((x).Ref).Filter).Colors),Aa ((((x).Ref).Filter).NotColors), .str ((((x).Ref).Filter).Sub),Aa ((((x).Ref).Filter).Keys),Aa ((((x).Ref).Filter).Tap),Aa (((((x).Ref).Filter).Power).Kind),Aa (((((x).Ref).Filter).Power).N),Aa (((((x).Ref).Filter).Tough).Kind),Aa (((((x).Ref).Filter).Tough).N),Aa (((((x).Ref).Filter).Value).Kind),Aa (((((x).Ref).Filter).Value).N),Aa (((x).Amount).Kind),Aa (((x).Amount).N),Aa (((x).Amount).Counter),Aa ((((x).Amount).Filter).Zone),Aa ((((x).Amount).Filter).Who),Aa ((((x).Amount).Filter).Self),Aa ((((x).Amount).Filter).Types),Aa ((((x).Amount).Filter).NotTypes),Aa ((((x).Amount).Filter).Colors),Aa ((((x).Amount).Filter).NotColors), .str ((((x).Amount).Filter).Sub),Aa ((((x).Amount).Filter).Keys),Aa ((((x).Amount).Filter).Tap),Aa (((((x).Amount).Filter).Power).Kind),Aa (((((x).Amount).Filter).Power).N),Aa (((((x).Amount).Filter).Tough).Kind),Aa (((((x).Amount).Filter).Tough).N),Aa (((((x).Amount).Filter).Value).Kind),Aa (((((x).Amount).Filter).Value).N),Aa ((x).Counter),Aa ((x).Zone), .str ((x).Card),Aa (((x).Filter).Zone),Aa (((x).Filter).Who),Aa (((x).Filter).Self),Aa (((x).Filter).Types),Aa (((x).Filter).NotTypes),Aa (((x).Filter).Colors),Aa (((x).Filter).NotColors), .str (((x).Filter).Sub),Aa (((x).Filter).Keys),Aa (((x).Filter).Tap),Aa ((((x).Filter).Power).Kind),Aa ((((x).Filter).Power).N),Aa ((((x).Filter).Tough).Kind),Aa ((((x).Filter).Tough).N),Aa ((((x).Filter).Value).Kind),Aa ((((x).Filter).Value).N),Aa (((x).Pool).x0),Aa (((x).Pool).x1),Aa (((x).Pool).x2),Aa (((x).Pool).x3),Aa (((x).Pool).x4),Aa (((x).Pool).x5), .sl ((x).Mods).length (((x).Mods).flatMap (AM))]
theorem Mp (x:Aw):(Az x).length =64:=rfl
structure AJ where
 On:Int
 Who:Int
 Filter:Af
 Do:Int
 N:Int
 Zone:Int
 Counter:Int
 deriving DecidableEq,Inhabited
def Bk (x:AJ):List C:=[Aa ((x).On),Aa ((x).Who),Aa (((x).Filter).Zone),Aa (((x).Filter).Who),Aa (((x).Filter).Self),Aa (((x).Filter).Types),Aa (((x).Filter).NotTypes),Aa (((x).Filter).Colors),Aa (((x).Filter).NotColors), .str (((x).Filter).Sub),Aa (((x).Filter).Keys),Aa (((x).Filter).Tap),Aa ((((x).Filter).Power).Kind),Aa ((((x).Filter).Power).N),Aa ((((x).Filter).Tough).Kind),Aa ((((x).Filter).Tough).N),Aa ((((x).Filter).Value).Kind),Aa ((((x).Filter).Value).N),Aa ((x).Do),Aa ((x).N),Aa ((x).Zone),Aa ((x).Counter)]
structure AN where
 Kind:Int
 Filter:Af
 Mods:List (Bx)
 Price:CG
 Slow:Bool
 Trigger:By
 May:Bool
 Specs:List (C0)
 Effects:List (Aw)
 Replace:AJ
 deriving DecidableEq,Inhabited
def Bp (x:AN):List C:=[Aa ((x).Kind),Aa (((x).Filter).Zone),Aa (((x).Filter).Who),Aa (((x).Filter).Self),Aa (((x).Filter).Types),Aa (((x).Filter).NotTypes),Aa (((x).Filter).Colors),Aa (((x).Filter).NotColors), .str (((x).Filter).Sub),Aa (((x).Filter).Keys),Aa (((x).Filter).Tap),Aa ((((x).Filter).Power).Kind),Aa ((((x).Filter).Power).N),Aa ((((x).Filter).Tough).Kind),Aa ((((x).Filter).Tough).N),Aa ((((x).Filter).Value).Kind),Aa ((((x).Filter).Value).N), .sl ((x).Mods).length (((x).Mods).flatMap (AM)),Aa ((((x).Price).Mana).Generic),Aa ((((x).Price).Mana).X),Aa (((((x).Price).Mana).Color).x0),Aa (((((x).Price).Mana).Color).x1),Aa (((((x).Price).Mana).Color).x2),Aa (((((x).Price).Mana).Color).x3),Aa (((((x).Price).Mana).Color).x4), .bool (((x).Price).Tap), .bool (((x).Price).Sacrifice),Aa (((x).Price).Life), .bool ((x).Slow),Aa (((x).Trigger).When),Aa (((x).Trigger).Who),Aa ((((x).Trigger).Filter).Zone),Aa ((((x).Trigger).Filter).Who),Aa ((((x).Trigger).Filter).Self),Aa ((((x).Trigger).Filter).Types),Aa ((((x).Trigger).Filter).NotTypes),Aa ((((x).Trigger).Filter).Colors),Aa ((((x).Trigger).Filter).NotColors), .str ((((x).Trigger).Filter).Sub),Aa ((((x).Trigger).Filter).Keys),Aa ((((x).Trigger).Filter).Tap),Aa (((((x).Trigger).Filter).Power).Kind),Aa (((((x).Trigger).Filter).Power).N),Aa (((((x).Trigger).Filter).Tough).Kind),Aa (((((x).Trigger).Filter).Tough).N),Aa (((((x).Trigger).Filter).Value).Kind),Aa (((((x).Trigger).Filter).Value).N), .bool ((x).May), .sl ((x).Specs).length (((x).Specs).flatMap (Bj)), .sl ((x).Effects).length (((x).Effects).flatMap (Az)),Aa (((x).Replace).On),Aa (((x).Replace).Who),Aa ((((x).Replace).Filter).Zone),Aa ((((x).Replace).Filter).Who),Aa ((((x).Replace).Filter).Self),Aa ((((x).Replace).Filter).Types),Aa ((((x).Replace).Filter).NotTypes),Aa ((((x).Replace).Filter).Colors),Aa ((((x).Replace).Filter).NotColors), .str ((((x).Replace).Filter).Sub),Aa ((((x).Replace).Filter).Keys),Aa ((((x).Replace).Filter).Tap),Aa (((((x).Replace).Filter).Power).Kind),Aa (((((x).Replace).Filter).Power).N),Aa (((((x).Replace).Filter).Tough).Kind),Aa (((((x).Replace).Filter).Tough).N),Aa (((((x).Replace).Filter).Value).Kind),Aa (((((x).Replace).Filter).Value).N),Aa (((x).Replace).Do),Aa (((x).Replace).N),Aa (((x).Replace).Zone),Aa (((x).Replace).Counter)]
structure HW where
 Name:List UInt8
 Token:Bool
 Cost:A1
 Color:Int
 Line:bP
 Power:Int
 Tough:Int
 Keys:Int
 Abilities:List (AN)
 deriving DecidableEq,Inhabited
def JD (x:HW):List C:=[.str ((x).Name), .bool ((x).Token),Aa (((x).Cost).Generic),Aa (((x).Cost).X),Aa ((((x).Cost).Color).x0),Aa ((((x).Cost).Color).x1),Aa ((((x).Cost).Color).x2),Aa ((((x).Cost).Color).x3),Aa ((((x).Cost).Color).x4),Aa ((x).Color),Aa (((x).Line).Super),Aa (((x).Line).Types), .sl (((x).Line).Subs).length ((((x).Line).Subs).flatMap (eS)),Aa ((x).Power),Aa ((x).Tough),Aa ((x).Keys), .sl ((x).Abilities).length (((x).Abilities).flatMap (Bp))]
structure Au where
 Life:Int
 Venom:Int
 Lands:Int
 Pool:A6 (Int)
 Failed:Bool
 Lost:Bool
 Library:List (Int)
 Hand:List (Int)
 Graveyard:List (Int)
 deriving DecidableEq,Inhabited
def Ad (x:Au):List C:=[Aa ((x).Life),Aa ((x).Venom),Aa ((x).Lands),Aa (((x).Pool).x0),Aa (((x).Pool).x1),Aa (((x).Pool).x2),Aa (((x).Pool).x3),Aa (((x).Pool).x4),Aa (((x).Pool).x5), .bool ((x).Failed), .bool ((x).Lost), .sl ((x).Library).length (((x).Library).flatMap (eI .i64)), .sl ((x).Hand).length (((x).Hand).flatMap (eI .i64)), .sl ((x).Graveyard).length (((x).Graveyard).flatMap (eI .i64))]
theorem C1 (x:Au):(Ad x).length =14:=rfl
structure Ao where
 Id:Int
 Card:Int
 Owner:Int
 Control:Int
 Zone:Int
 Token:Bool
 Tapped:Bool
 Sick:Bool
 Deadly:Bool
 Damage:Int
 Counters:A3 (Int)
 Stamp:Int
 Copy:Int
 Attack:Int
 Blocked:Bool
 Blocks:Int
 Shield:Int
 deriving DecidableEq,Inhabited
def Ac (x:Ao):List C:=[Aa ((x).Id),Aa ((x).Card),Aa ((x).Owner),Aa ((x).Control),Aa ((x).Zone), .bool ((x).Token), .bool ((x).Tapped), .bool ((x).Sick), .bool ((x).Deadly),Aa ((x).Damage),Aa (((x).Counters).x0),Aa (((x).Counters).x1),Aa (((x).Counters).x2),Aa ((x).Stamp),Aa ((x).Copy),Aa ((x).Attack), .bool ((x).Blocked),Aa ((x).Blocks),Aa ((x).Shield)]
theorem GX (x:Ao):(Ac x).length =19:=rfl
structure Dy where
 Object:Int
 Player:Int
 deriving DecidableEq,Inhabited
def Bg (x:Dy):List C:=[Aa ((x).Object),Aa ((x).Player)]
theorem T7 (x:Dy):(Bg x).length =2:=rfl
structure Ny where
 Kind:Int
 Source:Int
 Object:Int
 Player:Int
 Amount:Int
 From:Int
 To:Int
 Cause:Int
 Counter:Int
 Card:Int
 Combat:Bool
 Tapped:Bool
 Extra:A3 (Int)
 deriving DecidableEq,Inhabited
def N5 (x:Ny):List C:=[Aa ((x).Kind),Aa ((x).Source),Aa ((x).Object),Aa ((x).Player),Aa ((x).Amount),Aa ((x).From),Aa ((x).To),Aa ((x).Cause),Aa ((x).Counter),Aa ((x).Card), .bool ((x).Combat), .bool ((x).Tapped),Aa (((x).Extra).x0),Aa (((x).Extra).x1),Aa (((x).Extra).x2)]
structure Bw where
 Id:Int
 Kind:Int
 Source:Int
 Control:Int
 X:Int
 Copy:Bool
 Ability:AN
 Targets:List (Dy)
 Event:Ny
 deriving DecidableEq,Inhabited
def An (x:Bw):List C:=[Aa ((x).Id),Aa ((x).Kind),Aa ((x).Source),Aa ((x).Control),Aa ((x).X), .bool ((x).Copy),Aa (((x).Ability).Kind),Aa ((((x).Ability).Filter).Zone),Aa ((((x).Ability).Filter).Who),Aa ((((x).Ability).Filter).Self),Aa ((((x).Ability).Filter).Types),Aa ((((x).Ability).Filter).NotTypes),Aa ((((x).Ability).Filter).Colors),Aa ((((x).Ability).Filter).NotColors), .str ((((x).Ability).Filter).Sub),Aa ((((x).Ability).Filter).Keys),Aa ((((x).Ability).Filter).Tap),Aa (((((x).Ability).Filter).Power).Kind),Aa (((((x).Ability).Filter).Power).N),Aa (((((x).Ability).Filter).Tough).Kind),Aa (((((x).Ability).Filter).Tough).N),Aa (((((x).Ability).Filter).Value).Kind),Aa (((((x).Ability).Filter).Value).N), .sl (((x).Ability).Mods).length ((((x).Ability).Mods).flatMap (AM)),Aa (((((x).Ability).Price).Mana).Generic),Aa (((((x).Ability).Price).Mana).X),Aa ((((((x).Ability).Price).Mana).Color).x0),Aa ((((((x).Ability).Price).Mana).Color).x1),Aa ((((((x).Ability).Price).Mana).Color).x2),Aa ((((((x).Ability).Price).Mana).Color).x3),Aa ((((((x).Ability).Price).Mana).Color).x4), .bool ((((x).Ability).Price).Tap), .bool ((((x).Ability).Price).Sacrifice),Aa ((((x).Ability).Price).Life), .bool (((x).Ability).Slow),Aa ((((x).Ability).Trigger).When),Aa ((((x).Ability).Trigger).Who),Aa (((((x).Ability).Trigger).Filter).Zone),Aa (((((x).Ability).Trigger).Filter).Who),Aa (((((x).Ability).Trigger).Filter).Self),Aa (((((x).Ability).Trigger).Filter).Types),Aa (((((x).Ability).Trigger).Filter).NotTypes),Aa (((((x).Ability).Trigger).Filter).Colors),Aa (((((x).Ability).Trigger).Filter).NotColors), .str (((((x).Ability).Trigger).Filter).Sub),Aa (((((x).Ability).Trigger).Filter).Keys),Aa (((((x).Ability).Trigger).Filter).Tap),Aa ((((((x).Ability).Trigger).Filter).Power).Kind),Aa ((((((x).Ability).Trigger).Filter).Power).N),Aa ((((((x).Ability).Trigger).Filter).Tough).Kind),Aa ((((((x).Ability).Trigger).Filter).Tough).N),Aa ((((((x).Ability).Trigger).Filter).Value).Kind),Aa ((((((x).Ability).Trigger).Filter).Value).N), .bool (((x).Ability).May), .sl (((x).Ability).Specs).length ((((x).Ability).Specs).flatMap (Bj)), .sl (((x).Ability).Effects).length ((((x).Ability).Effects).flatMap (Az)),Aa ((((x).Ability).Replace).On),Aa ((((x).Ability).Replace).Who),Aa (((((x).Ability).Replace).Filter).Zone),Aa (((((x).Ability).Replace).Filter).Who),Aa (((((x).Ability).Replace).Filter).Self),Aa (((((x).Ability).Replace).Filter).Types),Aa (((((x).Ability).Replace).Filter).NotTypes),Aa (((((x).Ability).Replace).Filter).Colors),Aa (((((x).Ability).Replace).Filter).NotColors), .str (((((x).Ability).Replace).Filter).Sub),Aa (((((x).Ability).Replace).Filter).Keys),Aa (((((x).Ability).Replace).Filter).Tap),Aa ((((((x).Ability).Replace).Filter).Power).Kind),Aa ((((((x).Ability).Replace).Filter).Power).N),Aa ((((((x).Ability).Replace).Filter).Tough).Kind),Aa ((((((x).Ability).Replace).Filter).Tough).N),Aa ((((((x).Ability).Replace).Filter).Value).Kind),Aa ((((((x).Ability).Replace).Filter).Value).N),Aa ((((x).Ability).Replace).Do),Aa ((((x).Ability).Replace).N),Aa ((((x).Ability).Replace).Zone),Aa ((((x).Ability).Replace).Counter), .sl ((x).Targets).length (((x).Targets).flatMap (Bg)),Aa (((x).Event).Kind),Aa (((x).Event).Source),Aa (((x).Event).Object),Aa (((x).Event).Player),Aa (((x).Event).Amount),Aa (((x).Event).From),Aa (((x).Event).To),Aa (((x).Event).Cause),Aa (((x).Event).Counter),Aa (((x).Event).Card), .bool (((x).Event).Combat), .bool (((x).Event).Tapped),Aa ((((x).Event).Extra).x0),Aa ((((x).Event).Extra).x1),Aa ((((x).Event).Extra).x2)]
theorem KQ (x:Bw):(An x).length =94:=rfl
structure AZ where
 Source:Int
 Control:Int
 Ability:AN
 Event:Ny
 deriving DecidableEq,Inhabited
def Ak (x:AZ):List C:=[Aa ((x).Source),Aa ((x).Control),Aa (((x).Ability).Kind),Aa ((((x).Ability).Filter).Zone),Aa ((((x).Ability).Filter).Who),Aa ((((x).Ability).Filter).Self),Aa ((((x).Ability).Filter).Types),Aa ((((x).Ability).Filter).NotTypes),Aa ((((x).Ability).Filter).Colors),Aa ((((x).Ability).Filter).NotColors), .str ((((x).Ability).Filter).Sub),Aa ((((x).Ability).Filter).Keys),Aa ((((x).Ability).Filter).Tap),Aa (((((x).Ability).Filter).Power).Kind),Aa (((((x).Ability).Filter).Power).N),Aa (((((x).Ability).Filter).Tough).Kind),Aa (((((x).Ability).Filter).Tough).N),Aa (((((x).Ability).Filter).Value).Kind),Aa (((((x).Ability).Filter).Value).N), .sl (((x).Ability).Mods).length ((((x).Ability).Mods).flatMap (AM)),Aa (((((x).Ability).Price).Mana).Generic),Aa (((((x).Ability).Price).Mana).X),Aa ((((((x).Ability).Price).Mana).Color).x0),Aa ((((((x).Ability).Price).Mana).Color).x1),Aa ((((((x).Ability).Price).Mana).Color).x2),Aa ((((((x).Ability).Price).Mana).Color).x3),Aa ((((((x).Ability).Price).Mana).Color).x4), .bool ((((x).Ability).Price).Tap), .bool ((((x).Ability).Price).Sacrifice),Aa ((((x).Ability).Price).Life), .bool (((x).Ability).Slow),Aa ((((x).Ability).Trigger).When),Aa ((((x).Ability).Trigger).Who),Aa (((((x).Ability).Trigger).Filter).Zone),Aa (((((x).Ability).Trigger).Filter).Who),Aa (((((x).Ability).Trigger).Filter).Self),Aa (((((x).Ability).Trigger).Filter).Types),Aa (((((x).Ability).Trigger).Filter).NotTypes),Aa (((((x).Ability).Trigger).Filter).Colors),Aa (((((x).Ability).Trigger).Filter).NotColors), .str (((((x).Ability).Trigger).Filter).Sub),Aa (((((x).Ability).Trigger).Filter).Keys),Aa (((((x).Ability).Trigger).Filter).Tap),Aa ((((((x).Ability).Trigger).Filter).Power).Kind),Aa ((((((x).Ability).Trigger).Filter).Power).N),Aa ((((((x).Ability).Trigger).Filter).Tough).Kind),Aa ((((((x).Ability).Trigger).Filter).Tough).N),Aa ((((((x).Ability).Trigger).Filter).Value).Kind),Aa ((((((x).Ability).Trigger).Filter).Value).N), .bool (((x).Ability).May), .sl (((x).Ability).Specs).length ((((x).Ability).Specs).flatMap (Bj)), .sl (((x).Ability).Effects).length ((((x).Ability).Effects).flatMap (Az)),Aa ((((x).Ability).Replace).On),Aa ((((x).Ability).Replace).Who),Aa (((((x).Ability).Replace).Filter).Zone),Aa (((((x).Ability).Replace).Filter).Who),Aa (((((x).Ability).Replace).Filter).Self),Aa (((((x).Ability).Replace).Filter).Types),Aa (((((x).Ability).Replace).Filter).NotTypes),Aa (((((x).Ability).Replace).Filter).Colors),Aa (((((x).Ability).Replace).Filter).NotColors), .str (((((x).Ability).Replace).Filter).Sub),Aa (((((x).Ability).Replace).Filter).Keys),Aa (((((x).Ability).Replace).Filter).Tap),Aa ((((((x).Ability).Replace).Filter).Power).Kind),Aa ((((((x).Ability).Replace).Filter).Power).N),Aa ((((((x).Ability).Replace).Filter).Tough).Kind),Aa ((((((x).Ability).Replace).Filter).Tough).N),Aa ((((((x).Ability).Replace).Filter).Value).Kind),Aa ((((((x).Ability).Replace).Filter).Value).N),Aa ((((x).Ability).Replace).Do),Aa ((((x).Ability).Replace).N),Aa ((((x).Ability).Replace).Zone),Aa ((((x).Ability).Replace).Counter),Aa (((x).Event).Kind),Aa (((x).Event).Source),Aa (((x).Event).Object),Aa (((x).Event).Player),Aa (((x).Event).Amount),Aa (((x).Event).From),Aa (((x).Event).To),Aa (((x).Event).Cause),Aa (((x).Event).Counter),Aa (((x).Event).Card), .bool (((x).Event).Combat), .bool (((x).Event).Tapped),Aa ((((x).Event).Extra).x0),Aa ((((x).Event).Extra).x1),Aa ((((x).Event).Extra).x2)]
theorem JE (x:AZ):(Ak x).length =89:=rfl
structure Ci where
 Stamp:Int
 Control:Int
 Source:Int
 Until:Int
 Objects:List (Int)
 Mods:List (Bx)
 deriving DecidableEq,Inhabited
def Ar (x:Ci):List C:=[Aa ((x).Stamp),Aa ((x).Control),Aa ((x).Source),Aa ((x).Until), .sl ((x).Objects).length (((x).Objects).flatMap (eI .i64)), .sl ((x).Mods).length (((x).Mods).flatMap (AM))]
theorem JF (x:Ci):(Ar x).length =6:=rfl
structure Aj where
 Players:List (Au)
 Objects:List (Ao)
 Battlefield:List (Int)
 Exile:List (Int)
 Stack:List (Bw)
 Waiting:List (AZ)
 Conts:List (Ci)
 Turn:Int
 Active:Int
 Step:Int
 Begun:Bool
 Priority:Int
 Passes:Int
 NextId:Int
 NextStamp:Int
 Seed:Int
 Extra:List (Int)
 Over:Int
 Winner:Int
 deriving DecidableEq,Inhabited
def Am (x:Aj):List C:=[.sl ((x).Players).length (((x).Players).flatMap (Ad)), .sl ((x).Objects).length (((x).Objects).flatMap (Ac)), .sl ((x).Battlefield).length (((x).Battlefield).flatMap (eI .i64)), .sl ((x).Exile).length (((x).Exile).flatMap (eI .i64)), .sl ((x).Stack).length (((x).Stack).flatMap (An)), .sl ((x).Waiting).length (((x).Waiting).flatMap (Ak)), .sl ((x).Conts).length (((x).Conts).flatMap (Ar)),Aa ((x).Turn),Aa ((x).Active),Aa ((x).Step), .bool ((x).Begun),Aa ((x).Priority),Aa ((x).Passes),Aa ((x).NextId),Aa ((x).NextStamp), .int .u64 ((x).Seed), .sl ((x).Extra).length (((x).Extra).flatMap (eI .i64)),Aa ((x).Over),Aa ((x).Winner)]
structure Bz where
 ref:Bool
 amount:Bool
 counter:Bool
 zone:Bool
 card:Bool
 filter:Bool
 pool:Bool
 mods:Bool
 deriving DecidableEq,Inhabited
def Ef (x:Bz):List C:=[.bool ((x).ref), .bool ((x).amount), .bool ((x).counter), .bool ((x).zone), .bool ((x).card), .bool ((x).filter), .bool ((x).pool), .bool ((x).mods)]
structure EC where
 Item:Bw
 Waiting:AZ
 Cont:Ci
 Object:Ao
 deriving DecidableEq,Inhabited
def Eg (x:EC):List C:=[Aa (((x).Item).Id),Aa (((x).Item).Kind),Aa (((x).Item).Source),Aa (((x).Item).Control),Aa (((x).Item).X), .bool (((x).Item).Copy),Aa ((((x).Item).Ability).Kind),Aa (((((x).Item).Ability).Filter).Zone),Aa (((((x).Item).Ability).Filter).Who),Aa (((((x).Item).Ability).Filter).Self),Aa (((((x).Item).Ability).Filter).Types),Aa (((((x).Item).Ability).Filter).NotTypes),Aa (((((x).Item).Ability).Filter).Colors),Aa (((((x).Item).Ability).Filter).NotColors), .str (((((x).Item).Ability).Filter).Sub),Aa (((((x).Item).Ability).Filter).Keys),Aa (((((x).Item).Ability).Filter).Tap),Aa ((((((x).Item).Ability).Filter).Power).Kind),Aa ((((((x).Item).Ability).Filter).Power).N),Aa ((((((x).Item).Ability).Filter).Tough).Kind),Aa ((((((x).Item).Ability).Filter).Tough).N),Aa ((((((x).Item).Ability).Filter).Value).Kind),Aa ((((((x).Item).Ability).Filter).Value).N), .sl ((((x).Item).Ability).Mods).length (((((x).Item).Ability).Mods).flatMap (AM)),Aa ((((((x).Item).Ability).Price).Mana).Generic),Aa ((((((x).Item).Ability).Price).Mana).X),Aa (((((((x).Item).Ability).Price).Mana).Color).x0),Aa (((((((x).Item).Ability).Price).Mana).Color).x1),Aa (((((((x).Item).Ability).Price).Mana).Color).x2),Aa (((((((x).Item).Ability).Price).Mana).Color).x3),Aa (((((((x).Item).Ability).Price).Mana).Color).x4), .bool (((((x).Item).Ability).Price).Tap), .bool (((((x).Item).Ability).Price).Sacrifice),Aa (((((x).Item).Ability).Price).Life), .bool ((((x).Item).Ability).Slow),Aa (((((x).Item).Ability).Trigger).When),Aa (((((x).Item).Ability).Trigger).Who),Aa ((((((x).Item).Ability).Trigger).Filter).Zone),Aa ((((((x).Item).Ability).Trigger).Filter).Who),Aa ((((((x).Item).Ability).Trigger).Filter).Self),Aa ((((((x).Item).Ability).Trigger).Filter).Types),Aa ((((((x).Item).Ability).Trigger).Filter).NotTypes),Aa ((((((x).Item).Ability).Trigger).Filter).Colors),Aa ((((((x).Item).Ability).Trigger).Filter).NotColors), .str ((((((x).Item).Ability).Trigger).Filter).Sub),Aa ((((((x).Item).Ability).Trigger).Filter).Keys),Aa ((((((x).Item).Ability).Trigger).Filter).Tap),Aa (((((((x).Item).Ability).Trigger).Filter).Power).Kind),Aa (((((((x).Item).Ability).Trigger).Filter).Power).N),Aa (((((((x).Item).Ability).Trigger).Filter).Tough).Kind),Aa (((((((x).Item).Ability).Trigger).Filter).Tough).N),Aa (((((((x).Item).Ability).Trigger).Filter).Value).Kind),Aa (((((((x).Item).Ability).Trigger).Filter).Value).N), .bool ((((x).Item).Ability).May), .sl ((((x).Item).Ability).Specs).length (((((x).Item).Ability).Specs).flatMap (Bj)), .sl ((((x).Item).Ability).Effects).length (((((x).Item).Ability).Effects).flatMap (Az)),Aa (((((x).Item).Ability).Replace).On),Aa (((((x).Item).Ability).Replace).Who),Aa ((((((x).Item).Ability).Replace).Filter).Zone),Aa ((((((x).Item).Ability).Replace).Filter).Who),Aa ((((((x).Item).Ability).Replace).Filter).Self),Aa ((((((x).Item).Ability).Replace).Filter).Types),Aa ((((((x).Item).Ability).Replace).Filter).NotTypes),Aa ((((((x).Item).Ability).Replace).Filter).Colors),Aa ((((((x).Item).Ability).Replace).Filter).NotColors), .str ((((((x).Item).Ability).Replace).Filter).Sub),Aa ((((((x).Item).Ability).Replace).Filter).Keys),Aa ((((((x).Item).Ability).Replace).Filter).Tap),Aa (((((((x).Item).Ability).Replace).Filter).Power).Kind),Aa (((((((x).Item).Ability).Replace).Filter).Power).N),Aa (((((((x).Item).Ability).Replace).Filter).Tough).Kind),Aa (((((((x).Item).Ability).Replace).Filter).Tough).N),Aa (((((((x).Item).Ability).Replace).Filter).Value).Kind),Aa (((((((x).Item).Ability).Replace).Filter).Value).N),Aa (((((x).Item).Ability).Replace).Do),Aa (((((x).Item).Ability).Replace).N),Aa (((((x).Item).Ability).Replace).Zone),Aa (((((x).Item).Ability).Replace).Counter), .sl (((x).Item).Targets).length ((((x).Item).Targets).flatMap (Bg)),Aa ((((x).Item).Event).Kind),Aa ((((x).Item).Event).Source),Aa ((((x).Item).Event).Object),Aa ((((x).Item).Event).Player),Aa ((((x).Item).Event).Amount),Aa ((((x).Item).Event).From),Aa ((((x).Item).Event).To),Aa ((((x).Item).Event).Cause),Aa ((((x).Item).Event).Counter),Aa ((((x).Item).Event).Card), .bool ((((x).Item).Event).Combat), .bool ((((x).Item).Event).Tapped),Aa (((((x).Item).Event).Extra).x0),Aa (((((x).Item).Event).Extra).x1),Aa (((((x).Item).Event).Extra).x2),Aa (((x).Waiting).Source),Aa (((x).Waiting).Control),Aa ((((x).Waiting).Ability).Kind),Aa (((((x).Waiting).Ability).Filter).Zone),Aa (((((x).Waiting).Ability).Filter).Who),Aa (((((x).Waiting).Ability).Filter).Self),Aa (((((x).Waiting).Ability).Filter).Types),Aa (((((x).Waiting).Ability).Filter).NotTypes),Aa (((((x).Waiting).Ability).Filter).Colors),Aa (((((x).Waiting).Ability).Filter).NotColors), .str (((((x).Waiting).Ability).Filter).Sub),Aa (((((x).Waiting).Ability).Filter).Keys),Aa (((((x).Waiting).Ability).Filter).Tap),Aa ((((((x).Waiting).Ability).Filter).Power).Kind),Aa ((((((x).Waiting).Ability).Filter).Power).N),Aa ((((((x).Waiting).Ability).Filter).Tough).Kind),Aa ((((((x).Waiting).Ability).Filter).Tough).N),Aa ((((((x).Waiting).Ability).Filter).Value).Kind),Aa ((((((x).Waiting).Ability).Filter).Value).N), .sl ((((x).Waiting).Ability).Mods).length (((((x).Waiting).Ability).Mods).flatMap (AM)),Aa ((((((x).Waiting).Ability).Price).Mana).Generic),Aa ((((((x).Waiting).Ability).Price).Mana).X),Aa (((((((x).Waiting).Ability).Price).Mana).Color).x0),Aa (((((((x).Waiting).Ability).Price).Mana).Color).x1),Aa (((((((x).Waiting).Ability).Price).Mana).Color).x2),Aa (((((((x).Waiting).Ability).Price).Mana).Color).x3),Aa (((((((x).Waiting).Ability).Price).Mana).Color).x4), .bool (((((x).Waiting).Ability).Price).Tap), .bool (((((x).Waiting).Ability).Price).Sacrifice),Aa (((((x).Waiting).Ability).Price).Life), .bool ((((x).Waiting).Ability).Slow),Aa (((((x).Waiting).Ability).Trigger).When),Aa (((((x).Waiting).Ability).Trigger).Who),Aa ((((((x).Waiting).Ability).Trigger).Filter).Zone),Aa ((((((x).Waiting).Ability).Trigger).Filter).Who),Aa ((((((x).Waiting).Ability).Trigger).Filter).Self),Aa ((((((x).Waiting).Ability).Trigger).Filter).Types),Aa ((((((x).Waiting).Ability).Trigger).Filter).NotTypes),Aa ((((((x).Waiting).Ability).Trigger).Filter).Colors),Aa ((((((x).Waiting).Ability).Trigger).Filter).NotColors), .str ((((((x).Waiting).Ability).Trigger).Filter).Sub),Aa ((((((x).Waiting).Ability).Trigger).Filter).Keys),Aa ((((((x).Waiting).Ability).Trigger).Filter).Tap),Aa (((((((x).Waiting).Ability).Trigger).Filter).Power).Kind),Aa (((((((x).Waiting).Ability).Trigger).Filter).Power).N),Aa (((((((x).Waiting).Ability).Trigger).Filter).Tough).Kind),Aa (((((((x).Waiting).Ability).Trigger).Filter).Tough).N),Aa (((((((x).Waiting).Ability).Trigger).Filter).Value).Kind),Aa (((((((x).Waiting).Ability).Trigger).Filter).Value).N), .bool ((((x).Waiting).Ability).May), .sl ((((x).Waiting).Ability).Specs).length (((((x).Waiting).Ability).Specs).flatMap (Bj)), .sl ((((x).Waiting).Ability).Effects).length (((((x).Waiting).Ability).Effects).flatMap (Az)),Aa (((((x).Waiting).Ability).Replace).On),Aa (((((x).Waiting).Ability).Replace).Who),Aa ((((((x).Waiting).Ability).Replace).Filter).Zone),Aa ((((((x).Waiting).Ability).Replace).Filter).Who),Aa ((((((x).Waiting).Ability).Replace).Filter).Self),Aa ((((((x).Waiting).Ability).Replace).Filter).Types),Aa ((((((x).Waiting).Ability).Replace).Filter).NotTypes),Aa ((((((x).Waiting).Ability).Replace).Filter).Colors),Aa ((((((x).Waiting).Ability).Replace).Filter).NotColors), .str ((((((x).Waiting).Ability).Replace).Filter).Sub),Aa ((((((x).Waiting).Ability).Replace).Filter).Keys),Aa ((((((x).Waiting).Ability).Replace).Filter).Tap),Aa (((((((x).Waiting).Ability).Replace).Filter).Power).Kind),Aa (((((((x).Waiting).Ability).Replace).Filter).Power).N),Aa (((((((x).Waiting).Ability).Replace).Filter).Tough).Kind),Aa (((((((x).Waiting).Ability).Replace).Filter).Tough).N),Aa (((((((x).Waiting).Ability).Replace).Filter).Value).Kind),Aa (((((((x).Waiting).Ability).Replace).Filter).Value).N),Aa (((((x).Waiting).Ability).Replace).Do),Aa (((((x).Waiting).Ability).Replace).N),Aa (((((x).Waiting).Ability).Replace).Zone),Aa (((((x).Waiting).Ability).Replace).Counter),Aa ((((x).Waiting).Event).Kind),Aa ((((x).Waiting).Event).Source),Aa ((((x).Waiting).Event).Object),Aa ((((x).Waiting).Event).Player),Aa ((((x).Waiting).Event).Amount),Aa ((((x).Waiting).Event).From),Aa ((((x).Waiting).Event).To),Aa ((((x).Waiting).Event).Cause),Aa ((((x).Waiting).Event).Counter),Aa ((((x).Waiting).Event).Card), .bool ((((x).Waiting).Event).Combat), .bool ((((x).Waiting).Event).Tapped),Aa (((((x).Waiting).Event).Extra).x0),Aa (((((x).Waiting).Event).Extra).x1),Aa (((((x).Waiting).Event).Extra).x2),Aa (((x).Cont).Stamp),Aa (((x).Cont).Control),Aa (((x).Cont).Source),Aa (((x).Cont).Until), .sl (((x).Cont).Objects).length ((((x).Cont).Objects).flatMap (eI .i64)), .sl (((x).Cont).Mods).length ((((x).Cont).Mods).flatMap (AM)),Aa (((x).Object).Id),Aa (((x).Object).Card),Aa (((x).Object).Owner),Aa (((x).Object).Control),Aa (((x).Object).Zone), .bool (((x).Object).Token), .bool (((x).Object).Tapped), .bool (((x).Object).Sick), .bool (((x).Object).Deadly),Aa (((x).Object).Damage),Aa ((((x).Object).Counters).x0),Aa ((((x).Object).Counters).x1),Aa ((((x).Object).Counters).x2),Aa (((x).Object).Stamp),Aa (((x).Object).Copy),Aa (((x).Object).Attack), .bool (((x).Object).Blocked),Aa (((x).Object).Blocks),Aa (((x).Object).Shield)]
def mH (cs:List C):Ao:=(⟨AL (cs.getD 0 .any),AL (cs.getD 1 .any),AL (cs.getD 2 .any),AL (cs.getD 3 .any),AL (cs.getD 4 .any),TF (cs.getD 5 .any),TF (cs.getD 6 .any),TF (cs.getD 7 .any),TF (cs.getD 8 .any),AL (cs.getD 9 .any),(⟨AL (cs.getD 10 .any),AL (cs.getD 11 .any),AL (cs.getD 12 .any)⟩:A3 (Int)),AL (cs.getD 13 .any),AL (cs.getD 14 .any),AL (cs.getD 15 .any),TF (cs.getD 16 .any),AL (cs.getD 17 .any),AL (cs.getD 18 .any)⟩:Ao)
theorem jt (a b:Ao):EZ (Ac a) (Ac b)=(a==b):=E0 (Ac) mH (fun _=>rfl) (fun _=>rfl) (fun _ _=>rfl) a b
def mI (cs:List C):A3 (Int):=(⟨AL (cs.getD 0 .any),AL (cs.getD 1 .any),AL (cs.getD 2 .any)⟩:A3 (Int))
theorem mJ (a b:A3 (Int)):EZ (Vk (eI .i64) a) (Vk (eI .i64) b)=(a==b):=E0 (Vk (eI .i64)) mI (fun _=>rfl) (fun _=>rfl) (fun _ _=>rfl) a b
def mK (cs:List C):Af:=(⟨AL (cs.getD 0 .any),AL (cs.getD 1 .any),AL (cs.getD 2 .any),AL (cs.getD 3 .any),AL (cs.getD 4 .any),AL (cs.getD 5 .any),AL (cs.getD 6 .any),Yj (cs.getD 7 .any),AL (cs.getD 8 .any),AL (cs.getD 9 .any),(⟨AL (cs.getD 10 .any),AL (cs.getD 11 .any)⟩:Ae),(⟨AL (cs.getD 12 .any),AL (cs.getD 13 .any)⟩:Ae),(⟨AL (cs.getD 14 .any),AL (cs.getD 15 .any)⟩:Ae)⟩:Af)
theorem T8 (a b:Af):EZ (A7 a) (A7 b)=(a==b):=E0 (A7) mK (fun _=>rfl) (fun _=>rfl) (fun _ _=>rfl) a b
def kG (cs:List C):Bx:=(⟨AL (cs.getD 0 .any),AL (cs.getD 1 .any),AL (cs.getD 2 .any),Yj (cs.getD 3 .any),(⟨AL (cs.getD 4 .any),AL (cs.getD 5 .any),AL (cs.getD 6 .any),AL (cs.getD 7 .any),AL (cs.getD 8 .any),AL (cs.getD 9 .any),AL (cs.getD 10 .any),Yj (cs.getD 11 .any),AL (cs.getD 12 .any),AL (cs.getD 13 .any),(⟨AL (cs.getD 14 .any),AL (cs.getD 15 .any)⟩:Ae),(⟨AL (cs.getD 16 .any),AL (cs.getD 17 .any)⟩:Ae),(⟨AL (cs.getD 18 .any),AL (cs.getD 19 .any)⟩:Ae)⟩:Af)⟩:Bx)
theorem fb (a b:Bx):EZ (AM a) (AM b)=(a==b):=E0 (AM) kG (fun _=>rfl) (fun _=>rfl) (fun _ _=>rfl) a b
def mL (cs:List C):CG:=(⟨(⟨AL (cs.getD 0 .any),AL (cs.getD 1 .any),(⟨AL (cs.getD 2 .any),AL (cs.getD 3 .any),AL (cs.getD 4 .any),AL (cs.getD 5 .any),AL (cs.getD 6 .any)⟩:A5 (Int))⟩:A1),TF (cs.getD 7 .any),TF (cs.getD 8 .any),AL (cs.getD 9 .any)⟩:CG)
theorem ju (a b:CG):EZ (I8 a) (I8 b)=(a==b):=E0 (I8) mL (fun _=>rfl) (fun _=>rfl) (fun _ _=>rfl) a b
def mM (cs:List C):By:=(⟨AL (cs.getD 0 .any),AL (cs.getD 1 .any),(⟨AL (cs.getD 2 .any),AL (cs.getD 3 .any),AL (cs.getD 4 .any),AL (cs.getD 5 .any),AL (cs.getD 6 .any),AL (cs.getD 7 .any),AL (cs.getD 8 .any),Yj (cs.getD 9 .any),AL (cs.getD 10 .any),AL (cs.getD 11 .any),(⟨AL (cs.getD 12 .any),AL (cs.getD 13 .any)⟩:Ae),(⟨AL (cs.getD 14 .any),AL (cs.getD 15 .any)⟩:Ae),(⟨AL (cs.getD 16 .any),AL (cs.getD 17 .any)⟩:Ae)⟩:Af)⟩:By)
theorem jv (a b:By):EZ (GW a) (GW b)=(a==b):=E0 (GW) mM (fun _=>rfl) (fun _=>rfl) (fun _ _=>rfl) a b
def kH (cs:List C):C0:=(⟨TF (cs.getD 0 .any),TF (cs.getD 1 .any),(⟨AL (cs.getD 2 .any),AL (cs.getD 3 .any),AL (cs.getD 4 .any),AL (cs.getD 5 .any),AL (cs.getD 6 .any),AL (cs.getD 7 .any),AL (cs.getD 8 .any),Yj (cs.getD 9 .any),AL (cs.getD 10 .any),AL (cs.getD 11 .any),(⟨AL (cs.getD 12 .any),AL (cs.getD 13 .any)⟩:Ae),(⟨AL (cs.getD 14 .any),AL (cs.getD 15 .any)⟩:Ae),(⟨AL (cs.getD 16 .any),AL (cs.getD 17 .any)⟩:Ae)⟩:Af)⟩:C0)
theorem kI (a b:C0):EZ (Bj a) (Bj b)=(a==b):=E0 (Bj) kH (fun _=>rfl) (fun _=>rfl) (fun _ _=>rfl) a b
def kJ (cs:List C):IM:=(⟨AL (cs.getD 0 .any),AL (cs.getD 1 .any),(⟨AL (cs.getD 2 .any),AL (cs.getD 3 .any),AL (cs.getD 4 .any),AL (cs.getD 5 .any),AL (cs.getD 6 .any),AL (cs.getD 7 .any),AL (cs.getD 8 .any),Yj (cs.getD 9 .any),AL (cs.getD 10 .any),AL (cs.getD 11 .any),(⟨AL (cs.getD 12 .any),AL (cs.getD 13 .any)⟩:Ae),(⟨AL (cs.getD 14 .any),AL (cs.getD 15 .any)⟩:Ae),(⟨AL (cs.getD 16 .any),AL (cs.getD 17 .any)⟩:Ae)⟩:Af)⟩:IM)
theorem fc (a b:IM):EZ (J6 a) (J6 b)=(a==b):=E0 (J6) kJ (fun _=>rfl) (fun _=>rfl) (fun _ _=>rfl) a b
def kK (cs:List C):Bv:=(⟨AL (cs.getD 0 .any),AL (cs.getD 1 .any),AL (cs.getD 2 .any),(⟨AL (cs.getD 3 .any),AL (cs.getD 4 .any),AL (cs.getD 5 .any),AL (cs.getD 6 .any),AL (cs.getD 7 .any),AL (cs.getD 8 .any),AL (cs.getD 9 .any),Yj (cs.getD 10 .any),AL (cs.getD 11 .any),AL (cs.getD 12 .any),(⟨AL (cs.getD 13 .any),AL (cs.getD 14 .any)⟩:Ae),(⟨AL (cs.getD 15 .any),AL (cs.getD 16 .any)⟩:Ae),(⟨AL (cs.getD 17 .any),AL (cs.getD 18 .any)⟩:Ae)⟩:Af)⟩:Bv)
theorem aq (a b:Bv):EZ (BK a) (BK b)=(a==b):=E0 (BK) kK (fun _=>rfl) (fun _=>rfl) (fun _ _=>rfl) a b
def mN (cs:List C):A6 (Int):=(⟨AL (cs.getD 0 .any),AL (cs.getD 1 .any),AL (cs.getD 2 .any),AL (cs.getD 3 .any),AL (cs.getD 4 .any),AL (cs.getD 5 .any)⟩:A6 (Int))
theorem bR (a b:A6 (Int)):EZ (T6 (eI .i64) a) (T6 (eI .i64) b)=(a==b):=E0 (T6 (eI .i64)) mN (fun _=>rfl) (fun _=>rfl) (fun _ _=>rfl) a b
def mO (cs:List C):AJ:=(⟨AL (cs.getD 0 .any),AL (cs.getD 1 .any),(⟨AL (cs.getD 2 .any),AL (cs.getD 3 .any),AL (cs.getD 4 .any),AL (cs.getD 5 .any),AL (cs.getD 6 .any),AL (cs.getD 7 .any),AL (cs.getD 8 .any),Yj (cs.getD 9 .any),AL (cs.getD 10 .any),AL (cs.getD 11 .any),(⟨AL (cs.getD 12 .any),AL (cs.getD 13 .any)⟩:Ae),(⟨AL (cs.getD 14 .any),AL (cs.getD 15 .any)⟩:Ae),(⟨AL (cs.getD 16 .any),AL (cs.getD 17 .any)⟩:Ae)⟩:Af),AL (cs.getD 18 .any),AL (cs.getD 19 .any),AL (cs.getD 20 .any),AL (cs.getD 21 .any)⟩:AJ)
theorem fd (a b:AJ):EZ (Bk a) (Bk b)=(a==b):=E0 (Bk) mO (fun _=>rfl) (fun _=>rfl) (fun _ _=>rfl) a b
def mP (cs:List C):A1:=(⟨AL (cs.getD 0 .any),AL (cs.getD 1 .any),(⟨AL (cs.getD 2 .any),AL (cs.getD 3 .any),AL (cs.getD 4 .any),AL (cs.getD 5 .any),AL (cs.getD 6 .any)⟩:A5 (Int))⟩:A1)
theorem jw (a b:A1):EZ (Fj a) (Fj b)=(a==b):=E0 (Fj) mP (fun _=>rfl) (fun _=>rfl) (fun _ _=>rfl) a b
def kL (cs:List C):Dy:=(⟨AL (cs.getD 0 .any),AL (cs.getD 1 .any)⟩:Dy)
theorem kM (a b:Dy):EZ (Bg a) (Bg b)=(a==b):=E0 (Bg) kL (fun _=>rfl) (fun _=>rfl) (fun _ _=>rfl) a b
def mQ (cs:List C):Ny:=(⟨AL (cs.getD 0 .any),AL (cs.getD 1 .any),AL (cs.getD 2 .any),AL (cs.getD 3 .any),AL (cs.getD 4 .any),AL (cs.getD 5 .any),AL (cs.getD 6 .any),AL (cs.getD 7 .any),AL (cs.getD 8 .any),AL (cs.getD 9 .any),TF (cs.getD 10 .any),TF (cs.getD 11 .any),(⟨AL (cs.getD 12 .any),AL (cs.getD 13 .any),AL (cs.getD 14 .any)⟩:A3 (Int))⟩:Ny)
theorem jx (a b:Ny):EZ (N5 a) (N5 b)=(a==b):=E0 (N5) mQ (fun _=>rfl) (fun _=>rfl) (fun _ _=>rfl) a b
def Wn:List UInt8:=[45,45]
def I9:List UInt8:=[98,97,115,105,99]
def Ik:List UInt8:=[117,110,105,113,117,101]
def Df:List UInt8:=[99,114,101,97,116,117,114,101]
def DW:List UInt8:=[105,110,115,116,97,110,116]
def ED:List UInt8:=[114,105,116,117,97,108]
def Fk:List UInt8:=[114,101,108,105,99]
def Fl:List UInt8:=[99,104,97,114,109]
def GY:List UInt8:=[108,97,110,100]
def Nz:List UInt8:=[99,111,110,116,114,111,108]
def Lg:List UInt8:=[43]
def Mq:List UInt8:=[116,121,112,101,115,61]
def Lh:List UInt8:=[116,121,112,101,115,43,61]
def PN:List UInt8:=[115,117,98,61]
def N6:List UInt8:=[115,117,98,43,61]
def LY:List UInt8:=[110,111,110,101]
def Li:List UInt8:=[99,111,108,111,114,115,61]
def J8:List UInt8:=[99,111,108,111,114,115,43,61]
def Il:List UInt8:=[102,108,121,105,110,103]
def Ja:List UInt8:=[114,101,97,99,104]
def Jb:List UInt8:=[104,97,115,116,101]
def FT:List UInt8:=[118,105,103,105,108,97,110,116]
def GZ:List UInt8:=[116,114,97,109,112,108,101]
def IC:List UInt8:=[102,105,114,115,116]
def Jc:List UInt8:=[100,111,117,98,108,101]
def NA:List UInt8:=[45,115,116,114,105,107,101]
def Im:List UInt8:=[100,101,97,100,108,121]
def FV:List UInt8:=[108,105,102,101,108,105,110,107]
def In:List UInt8:=[109,101,110,97,99,101]
def FW:List UInt8:=[100,101,102,101,110,100,101,114]
def Io:List UInt8:=[119,97,114,100,101,100]
def Ip:List UInt8:=[115,116,117,114,100,121]
def G0:List UInt8:=[101,108,117,115,105,118,101]
def NB:List UInt8:=[110,111]
def LZ:List UInt8:=[109,117,115,116]
def NC:List UInt8:=[45,97,116,116,97,99,107]
def FX:List UInt8:=[110,111,45,98,108,111,99,107]
def Mr:List UInt8:=[107,101,121,115,43,61]
def GK:List UInt8:=[107,101,121,115,45,61]
def QU:List UInt8:=[98,108,97,110,107]
def Lj:List UInt8:=[105,110,45,104,97,110,100]
def IP:List UInt8:=[105,110,45,108,105,98,114,97,114,121]
def Hi:List UInt8:=[105,110,45,103,114,97,118,101,121,97,114,100]
def J9:List UInt8:=[105,110,45,101,120,105,108,101]
def Ka:List UInt8:=[111,110,45,115,116,97,99,107]
def ID:List UInt8:=[121,111,117,114,115]
def G1:List UInt8:=[116,104,101,105,114,115]
def KR:List UInt8:=[115,101,108,102]
def Jd:List UInt8:=[111,116,104,101,114]
def CU:List UInt8:=[110,111,110,45]
def Jr:List UInt8:=[115,117,98,58]
def Cq:List UInt8:=[119,105,116,104,58]
def FY:List UInt8:=[116,97,112,112,101,100]
def Ej:List UInt8:=[117,110,116,97,112,112,101,100]
def Wo:List UInt8:=[112,111,119,101,114]
def Kt:List UInt8:=[62,61]
def Ku:List UInt8:=[60,61]
def N7:List UInt8:=[61]
def Wp:List UInt8:=[116,111,117,103,104]
def Wq:List UInt8:=[118,97,108,117,101]
def N8:List UInt8:=[97,110,121]
def Xk:List UInt8:=[32]
def Js:List UInt8:=[112,116,61,99,111,117,110,116,40]
def S4:List UInt8:=[41]
def S5:List UInt8:=[112,116,61]
def Lk:List UInt8:=[47]
def PO:List UInt8:=[112,116,43,61]
def LC:List UInt8:=[112,116,45,115,119,105,116,99,104]
def Fm:List UInt8:=[44,32]
def PP:List UInt8:=[91,112,108,97,121,101,114,93]
def bU:List UInt8:=[40]
def Wr:List UInt8:=[41,93]
def M5:List UInt8:=[91,112,108,97,121,101,114,32,111,114,32]
def bV:List UInt8:=[91]
def Ms:List UInt8:=[100,97,109,97,103,101]
def Ll:List UInt8:=[100,101,115,116,114,111,121]
def PQ:List UInt8:=[109,111,118,101]
def PR:List UInt8:=[100,114,97,119]
def Lm:List UInt8:=[100,105,115,99,97,114,100]
def PS:List UInt8:=[103,97,105,110]
def PT:List UInt8:=[108,111,115,101]
def N9:List UInt8:=[116,97,112]
def Oa:List UInt8:=[117,110,116,97,112]
def S6:List UInt8:=[112,117,116]
def PU:List UInt8:=[116,97,107,101]
def Mt:List UInt8:=[99,114,101,97,116,101]
def S7:List UInt8:=[109,111,100]
def PV:List UInt8:=[109,97,110,97]
def Ln:List UInt8:=[99,111,117,110,116,101,114]
def PW:List UInt8:=[99,111,112,121]
def Mu:List UInt8:=[98,101,99,111,109,101]
def Gu:List UInt8:=[115,97,99,114,105,102,105,99,101]
def PX:List UInt8:=[109,105,108,108]
def PY:List UInt8:=[115,99,114,121]
def Mv:List UInt8:=[115,101,97,114,99,104]
def Mw:List UInt8:=[115,104,105,101,108,100]
def PZ:List UInt8:=[116,117,114,110]
def S8:List UInt8:=[119,105,110]
def Mx:List UInt8:=[100,101,102,101,97,116]
def Ob:List UInt8:=[118,101,110,111,109]
def P0:List UInt8:=[48]
def bW:List UInt8:=[88]
def L0:List UInt8:=[65,67,74,82,69]
def Ws:List UInt8:=[108,105,102,101,32]
def bX:List UInt8:=[123]
def bY:List UInt8:=[125]
def Xl:List UInt8:=[121,111,117]
def LD:List UInt8:=[111,112,112,111,110,101,110,116,115]
def dm:List UInt8:=[97,109,98,101,114]
def ar:List UInt8:=[99,111,98,97,108,116]
def g5:List UInt8:=[106,101,116]
def fe:List UInt8:=[114,117,98,121]
def YQ:List UInt8:=[101,109,101,114,97,108,100]
def QV:List UInt8:=[102,105,114,115,116,45,115,116,114,105,107,101]
def P1:List UInt8:=[100,111,117,98,108,101,45,115,116,114,105,107,101]
def Vl:List UInt8:=[110,111,45,97,116,116,97,99,107]
def R8:List UInt8:=[109,117,115,116,45,97,116,116,97,99,107]
def g6:List UInt8:=[45]
def T9:List UInt8:=[101,110,116,101,114,115]
def Ua:List UInt8:=[108,101,97,118,101,115]
def YR:List UInt8:=[100,105,101,115]
def RR:List UInt8:=[97,116,116,97,99,107,115]
def Ub:List UInt8:=[98,108,111,99,107,115]
def Wt:List UInt8:=[100,101,97,108,115]
def Wu:List UInt8:=[100,101,97,108,116]
def Wv:List UInt8:=[100,114,97,119,115]
def Ww:List UInt8:=[99,97,115,116,115]
def Uc:List UInt8:=[117,112,107,101,101,112]
def bZ:List UInt8:=[101,110,100]
def Wx:List UInt8:=[103,97,105,110,115]
def Wy:List UInt8:=[108,111,115,101,115]
def Ud:List UInt8:=[112,108,97,99,101,100]
def mR:List UInt8:=[114]
def kN:List UInt8:=[114,122]
def g8:List UInt8:=[114,107,97]
def g9:List UInt8:=[114,99,97]
def kO:List UInt8:=[114,109]
def mS:List UInt8:=[112]
def hC:List UInt8:=[114,97,102]
def mT:List UInt8:=[97]
def mU:List UInt8:=[102]
def kP:List UInt8:=[114,97]
def ff:List UInt8:=[112,108,117,115]
def dn:List UInt8:=[109,105,110,117,115]
def au:List UInt8:=[99,104,97,114,103,101]
theorem Xm:Tf Tryz.prog 4=true:=by kernel_rfl
theorem kQ:Iz Tryz.prog 107=true:=by kernel_rfl
theorem kR:Iz Tryz.prog 137=true:=by kernel_rfl
theorem fg:Iz Tryz.prog 139=true:=by kernel_rfl
theorem aw:Iz Tryz.prog 184=true:=by kernel_rfl
theorem kS:Iz Tryz.prog 187=true:=by kernel_rfl
theorem kT:Iz Tryz.prog 191=true:=by kernel_rfl
theorem kU:Iz Tryz.prog 218=true:=by kernel_rfl
theorem fh:Iz Tryz.prog 219=true:=by kernel_rfl
theorem kV:Iz Tryz.prog 221=true:=by kernel_rfl
theorem jy:Iz Tryz.prog 31=true:=by kernel_rfl
theorem YS:Iz Tryz.prog 37=true:=by kernel_rfl
theorem mV:Iz Tryz.prog 39=true:=by kernel_rfl
theorem fi:Iz Tryz.prog 41=true:=by kernel_rfl
theorem mW:Iz Tryz.prog 49=true:=by kernel_rfl
theorem fj:Iz Tryz.prog 51=true:=by kernel_rfl
theorem mX:Iz Tryz.prog 53=true:=by kernel_rfl
theorem mY:Iz Tryz.prog 63=true:=by kernel_rfl
theorem jz:Iz Tryz.prog 71=true:=by kernel_rfl
end Go.PL
