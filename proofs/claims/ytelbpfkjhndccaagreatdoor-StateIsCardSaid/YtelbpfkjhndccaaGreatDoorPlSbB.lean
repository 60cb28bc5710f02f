/- Functions of the program, as partial functions in Lean, with proofs. -/
import Derived.Test.YtelbpfkjhndccaaGreatDoorPlPktoPlPx
import Derived.Test.YtelbpfkjhndccaaGreatDoorRows
import Derived.Test.YtelbpfkjhndccaaGreatDoorPlShelf
import Derived.Test.YtelbpfkjhndccaaGreatDoorPlPktoPlPx
namespace Go.PL
open Go Go.RowKit Go.Proofs
set_option maxRecDepth 100000
set_option linter.all false
set_option maxHeartbeats 4000000
abbrev Aa:Int→C:=C.int .i64
theorem BF:Tryz.prog.follows .mixedOrders =true:=by kernel_rfl
def Zl:List UInt8:=[112,108,117,115]
def Zm:List UInt8:=[109,105,110,117,115]
def Zn:List UInt8:=[99,104,97,114,103,101]
def KY:List (List UInt8):=[Zl,Zm,Zn]
def M5:List UInt8:=[97,109,98,101,114]
def M6:List UInt8:=[99,111,98,97,108,116]
def M7:List UInt8:=[106,101,116]
def M8:List UInt8:=[114,117,98,121]
def M9:List UInt8:=[101,109,101,114,97,108,100]
def Et:List (List UInt8):=[M5,M6,M7,M8,M9]
def GS (w:World) (g:Nat) (tab:List (List UInt8)):Prop:= ∃ T fz,w.heap[g]? =some (.cells (tab.map fun s=>Value.string ⟨s.toArray⟩).toArray T fz)
def I0 (w:World):Prop:=Lib.TabIs Tryz.prog w "internal/strconv.uint64pow10" .u64 Lib.pow10Tab∧w.ShapedOpen Tryz.prog∧GS w 0 KY∧GS w 1 Et
theorem GS.stable {w w':World} {g:Nat} {tab:List (List UInt8)} (h2: ∀ b,b<w.heap.size→w'.heap[b]? =w.heap[b]?) (h:GS w g tab):GS w' g tab:=by
 obtain⟨T,fz,h⟩:=h
 by_cases hlt:g<w.heap.size
 ·exact⟨T,fz,by rw [h2 g hlt];exact h⟩
 ·rw [Array.getElem?_eq_none (by omega)]at h;cases h
theorem SD {P:Program} {w w':World} (h:w.ShapedOpen P) (h2: ∀ b,b<w.heap.size→w'.heap[b]? =w.heap[b]?):w'.ShapedOpen P:=by
 have lt_of_some: ∀ {i:Nat} {o:Obj},w.heap[i]? =some o→i<w.heap.size:=by
  intro i o ho
  rcases Nat.lt_or_ge i w.heap.size with h' | h'
  ·exact h'
  ·simp [Array.getElem?_eq_none h']at ho
 refine⟨fun g zero t hg hz=>?_,fun k hk1 hk2=>?_⟩
 ·obtain⟨cs,h1,h3,h4⟩:=h.1 g zero t hg hz
  exact⟨cs,(h2 g (lt_of_some h1)).trans h1,h3,fun hb=>Row.ok_of_shape (fun b x hx=>by
   unfold World.shape? at hx ⊢
   by_cases hlt:b<w.heap.size
   ·rw [h2 b hlt];exact hx
   ·rw [Array.getElem?_eq_none (by omega)]at hx;cases hx) (h4 hb)⟩
 ·obtain⟨o,o₀,h1,h3,h4⟩:=h.2 k hk1 hk2
  exact⟨o,o₀,(h2 k (lt_of_some h1)).trans h1,h3,h4⟩
theorem fe {P:Program} {w w':World} {n:String} {cs:Array Value} (h2: ∀ b,b<w.heap.size→w'.heap[b]? =w.heap[b]?) (h:w.var? P n=some cs):w'.var? P n=some cs:=by
 unfold World.var? at h ⊢
 cases hg:P.globalNamed n with
 | none=>rw [hg]at h;cases h
 | some g=>
   rw [hg]at h
   simp only [Option.bind_some]at h ⊢
   by_cases hlt:g<w.heap.size
   ·rw [h2 g hlt];exact h
   ·rw [Array.getElem?_eq_none (by omega)]at h;cases h
theorem Ae:Tl I0:=fun _ _ h _ h2=>⟨fe h2 h.1,SD h.2.1 h2,GS.stable h2 h.2.2.1,GS.stable h2 h.2.2.2⟩
theorem bG:Wh I0 0 KY:=fun w h=>h.2.2.1
theorem Tw:Wh I0 1 Et:=fun w h=>h.2.2.2
def bH (n:Int):Option (List UInt8):=if -9223372036854775808≤n∧n≤9223372036854775807 then some (Lib.itoa n)else none
theorem qV {n:Int} {r:List UInt8} (h:bH n=some r):Af Tryz.prog I0 185 [vI n] (· =vS r):=by
 unfold bH at h
 split at h
 ·rename_i hb
  injection h with h;subst h
  refine⟨by kernel_rfl,fun w vs av hI hav hr=>?_⟩
  simp only [Bf]at hr
  obtain⟨v,r,h1,h2,rfl⟩:=hr
  obtain rfl:vs= #[v]:=Array.ext' h1
  simp only [Ap,Ax]at h2
  subst h2
  refine(Tryz.strconv_Itoa n hb.1 hb.2 w hI.1).mono fun e w' ⟨he,k,os,hw⟩=>?_
  subst hw
  refine⟨_,_,he,rfl,rfl,?_,?_⟩
  ·simp only [Ap,Ax]
  ·refine⟨rfl,rfl,rfl,by simp [Sort.grow],fun i hi=>?_⟩
   show ((w.drewN k).heap ++os)[i]? =_
   rw [Array.getElem?_append_left (by show i<w.heap.size;omega)]
   rfl
 ·cases h
def SE (l:List (List UInt8)) (sep:List UInt8):Option (List UInt8):=if l.length≤140737488355328∧(Lib.join l sep).length ≤140737488355328 then some (Lib.join l sep)else none
theorem bI {w:World} {G:B4} {b:Nat}: ∀ {l:List (List UInt8)} {o:Nat},A9 w G (l.flatMap eS) b o→ ∀ (j:Nat) x,(l.map fun s=>(⟨s.toArray⟩:ByteArray))[j]? =some x→w.cell? ⟨b,o+j,none⟩=some (.string x)
 | [],_,_,j,x,h=>by simp at h
 | s::l,o,h,j,x,hx=>by
   rw [List.flatMap_cons]at h
   simp only [eS,List.cons_append,List.nil_append,A9,Ax]at h
   obtain⟨⟨v,h1,h2⟩,h3⟩:=h
   subst h2
   cases j with
   | zero=>simp at hx;subst hx;simpa using h1
   | succ j=>simpa [Nat.add_assoc,Nat.add_comm 1 j] using bI h3 j x (by simpa using hx)
theorem Zo {l:List (List UInt8)} {sep r:List UInt8} (h:SE l sep=some r):Af Tryz.prog I0 145 [vL eS l,vS sep] (· =vS r):=by
 unfold SE at h
 split at h
 ·rename_i hb
  injection h with h;subst h
  refine⟨by kernel_rfl,fun w vs av hI hav hr=>?_⟩
  simp only [Bf]at hr
  obtain⟨v,r,h1,h2,u,r2,rfl,h3,rfl⟩:=hr
  obtain rfl:vs= #[v,u]:=Array.ext' h1
  simp only [Ap,Ax]at h2 h3
  subst h3
  obtain⟨_,a,cap,rfl,hc1,hc2,hc3,hc4⟩:=h2
  have e:(l.map fun s=>(⟨s.toArray⟩:ByteArray)).map (·.data.toList)=l:=by rw [List.map_map];exact(List.map_congr_left (fun _ _=>rfl)).trans (List.map_id _)
  rcases hc4 with hc4 | ⟨b,o,rfl,_,hb2,hrow⟩
  ·have hl:l=[]:=List.length_eq_zero_iff.1 hc4
   subst hl
   refine(Tryz.strings_Join_none a cap ⟨sep.toArray⟩ w).mono fun e w' ⟨he,hw⟩=>?_
   subst hw
   exact⟨_,_,he,rfl,rfl,by simp only [Ap,Ax];rfl,Below.refl _ _⟩
  ·have:=Tryz.strings_Join b o cap (l.map fun s=>(⟨s.toArray⟩:ByteArray)) ⟨sep.toArray⟩ w (bI hrow) hb2 (by simpa using hb.1) (by simpa using hc1) (by rw [e];exact hb.2)
   rw [List.length_map]at this
   refine this.mono fun e' w' ⟨he,hw⟩=>?_
   rw [e]at he
   exact⟨_,_,he,rfl,rfl,by simp only [Ap,Ax],hw⟩
 ·cases h
def Pi (s:List UInt8) (n:Int):Option (List UInt8):=if 0≤n∧n≤9223372036854775807∧s.length*n.toNat≤140737488355328 then some (Lib.repeatL s n.toNat)else none
theorem bJ {s:List UInt8} {n:Int} {r:List UInt8} (h:Pi s n=some r):Af Tryz.prog I0 184 [vS s,vI n] (· =vS r):=by
 unfold Pi at h
 split at h
 ·rename_i hb
  injection h with h;subst h
  refine⟨by kernel_rfl,fun w vs av hI hav hr=>?_⟩
  simp only [Bf]at hr
  obtain⟨v,r,h1,h2,u,r2,rfl,h3,rfl⟩:=hr
  obtain rfl:vs= #[v,u]:=Array.ext' h1
  simp only [Ap,Ax]at h2 h3
  subst h2 h3
  have hn:(Value.int .i64 n)= .int .i64 (n.toNat:Nat):=by rw [Int.toNat_of_nonneg hb.1]
  rw [hn]
  refine(Tryz.strings_Repeat ⟨s.toArray⟩ n.toNat w (by omega) (by simpa [ByteArray.size] using hb.2.2)).mono fun e w' ⟨he,hw⟩=>?_
  exact⟨_,_,he,rfl,rfl,by simp only [Ap,Ax],hw⟩
 ·cases h
def OE (s p:List UInt8):Option Bool:=if s.length<4294967281 then some (Lib.contains s p)else none
theorem ff {s p:List UInt8} {r:Bool} (h:OE s p=some r):Af Tryz.prog I0 222 [vS s,vS p] (· =vB r):=by
 unfold OE at h
 split at h
 ·rename_i hb
  injection h with h;subst h
  refine⟨by kernel_rfl,fun w vs av hI hav hr=>?_⟩
  simp only [Bf]at hr
  obtain⟨v,r,h1,h2,u,r2,rfl,h3,rfl⟩:=hr
  obtain rfl:vs= #[v,u]:=Array.ext' h1
  simp only [Ap,Ax]at h2 h3
  subst h2 h3
  refine(Tryz.strings_Contains_shaped ⟨s.toArray⟩ ⟨p.toArray⟩ w hI.2.1 (by simpa [ByteArray.size] using hb)).mono fun e w' ⟨he,hw⟩=>?_
  subst hw
  exact⟨_,_,he,rfl,rfl,by simp only [Ap,Ax],Below.refl _ _⟩
 ·cases h
structure A2 (α:Type) where
 x0:α
 x1:α
 deriving DecidableEq,Inhabited
def A2.l {α:Type} (a:A2 α):List α:=[a.x0,a.x1]
def u0 {α:Type} (e:α→List C) (a:A2 α):List C:=a.l.flatMap e
def A2.set {α:Type} (a:A2 α) (i:Nat) (v:α):A2 α:=⟨if i=0 then v else a.x0,if i=1 then v else a.x1⟩
theorem A2.l_set {α:Type} (a:A2 α) (i:Nat) (v:α):(a.set i v).l =a.l.set i v:=by
 rcases i with _ | _ | i<;>simp [A2.set,A2.l]
structure A3 (α:Type) where
 x0:α
 x1:α
 x2:α
 deriving DecidableEq,Inhabited
def A3.l {α:Type} (a:A3 α):List α:=[a.x0,a.x1,a.x2]
def UM {α:Type} (e:α→List C) (a:A3 α):List C:=a.l.flatMap e
def A3.set {α:Type} (a:A3 α) (i:Nat) (v:α):A3 α:=⟨if i=0 then v else a.x0,if i=1 then v else a.x1,if i=2 then v else a.x2⟩
theorem A3.l_set {α:Type} (a:A3 α) (i:Nat) (v:α):(a.set i v).l =a.l.set i v:=by
 rcases i with _ | _ | _ | i<;>simp [A3.set,A3.l]
structure A4 (α:Type) where
 x0:α
 x1:α
 x2:α
 x3:α
 deriving DecidableEq,Inhabited
def A4.l {α:Type} (a:A4 α):List α:=[a.x0,a.x1,a.x2,a.x3]
def u4 {α:Type} (e:α→List C) (a:A4 α):List C:=a.l.flatMap e
def A4.set {α:Type} (a:A4 α) (i:Nat) (v:α):A4 α:=⟨if i=0 then v else a.x0,if i=1 then v else a.x1,if i=2 then v else a.x2,if i=3 then v else a.x3⟩
theorem A4.l_set {α:Type} (a:A4 α) (i:Nat) (v:α):(a.set i v).l =a.l.set i v:=by
 rcases i with _ | _ | _ | _ | i<;>simp [A4.set,A4.l]
structure A5 (α:Type) where
 x0:α
 x1:α
 x2:α
 x3:α
 x4:α
 deriving DecidableEq,Inhabited
def A5.l {α:Type} (a:A5 α):List α:=[a.x0,a.x1,a.x2,a.x3,a.x4]
def nl {α:Type} (e:α→List C) (a:A5 α):List C:=a.l.flatMap e
def A5.set {α:Type} (a:A5 α) (i:Nat) (v:α):A5 α:=⟨if i=0 then v else a.x0,if i=1 then v else a.x1,if i=2 then v else a.x2,if i=3 then v else a.x3,if i=4 then v else a.x4⟩
theorem A5.l_set {α:Type} (a:A5 α) (i:Nat) (v:α):(a.set i v).l =a.l.set i v:=by
 rcases i with _ | _ | _ | _ | _ | i<;>simp [A5.set,A5.l]
structure A6 (α:Type) where
 x0:α
 x1:α
 x2:α
 x3:α
 x4:α
 x5:α
 deriving DecidableEq,Inhabited
def A6.l {α:Type} (a:A6 α):List α:=[a.x0,a.x1,a.x2,a.x3,a.x4,a.x5]
def QY {α:Type} (e:α→List C) (a:A6 α):List C:=a.l.flatMap e
def A6.set {α:Type} (a:A6 α) (i:Nat) (v:α):A6 α:=⟨if i=0 then v else a.x0,if i=1 then v else a.x1,if i=2 then v else a.x2,if i=3 then v else a.x3,if i=4 then v else a.x4,if i=5 then v else a.x5⟩
theorem A6.l_set {α:Type} (a:A6 α) (i:Nat) (v:α):(a.set i v).l =a.l.set i v:=by
 rcases i with _ | _ | _ | _ | _ | _ | i<;>simp [A6.set,A6.l]
structure jw (α:Type) where
 x0:α
 x1:α
 x2:α
 x3:α
 x4:α
 x5:α
 x6:α
 x7:α
 x8:α
 x9:α
 x10:α
 x11:α
 x12:α
 x13:α
 x14:α
 x15:α
 x16:α
 x17:α
 x18:α
 x19:α
 x20:α
 x21:α
 x22:α
 x23:α
 x24:α
 x25:α
 x26:α
 deriving DecidableEq,Inhabited
def jw.l {α:Type} (a:jw α):List α:=[a.x0,a.x1,a.x2,a.x3,a.x4,a.x5,a.x6,a.x7,a.x8,a.x9,a.x10,a.x11,a.x12,a.x13,a.x14,a.x15,a.x16,a.x17,a.x18,a.x19,a.x20,a.x21,a.x22,a.x23,a.x24,a.x25,a.x26]
def sO {α:Type} (e:α→List C) (a:jw α):List C:=a.l.flatMap e
def jw.set {α:Type} (a:jw α) (i:Nat) (v:α):jw α:=⟨if i=0 then v else a.x0,if i=1 then v else a.x1,if i=2 then v else a.x2,if i=3 then v else a.x3,if i=4 then v else a.x4,if i=5 then v else a.x5,if i=6 then v else a.x6,if i=7 then v else a.x7,if i=8 then v else a.x8,if i=9 then v else a.x9,if i=10 then v else a.x10,if i=11 then v else a.x11,if i=12 then v else a.x12,if i=13 then v else a.x13,if i=14 then v else a.x14,if i=15 then v else a.x15,if i=16 then v else a.x16,if i=17 then v else a.x17,if i=18 then v else a.x18,if i=19 then v else a.x19,if i=20 then v else a.x20,if i=21 then v else a.x21,if i=22 then v else a.x22,if i=23 then v else a.x23,if i=24 then v else a.x24,if i=25 then v else a.x25,if i=26 then v else a.x26⟩
theorem jw.l_set {α:Type} (a:jw α) (i:Nat) (v:α):(a.set i v).l =a.l.set i v:=by
 rcases i with _ | _ | _ | _ | _ | _ | _ | _ | _ | _ | _ | _ | _ | _ | _ | _ | _ | _ | _ | _ | _ | _ | _ | _ | _ | _ | _ | i<;>simp [jw.set,jw.l]
structure AP where
 Generic:Int
 X:Int
 Color:A5 (Int)
 deriving DecidableEq,Inhabited
def Bu (x:AP):List C:=[Aa ((x).Generic),Aa ((x).X),Aa (((x).Color).x0),Aa (((x).Color).x1),Aa (((x).Color).x2),Aa (((x).Color).x3),Aa (((x).Color).x4)]
structure gX where
 Super:Int
 Types:Int
 Subs:List (List UInt8)
 deriving DecidableEq,Inhabited
def lr (x:gX):List C:=[Aa ((x).Super),Aa ((x).Types), .sl ((x).Subs).length (((x).Subs).flatMap (eS))]
structure Ac where
 Kind:Int
 N:Int
 deriving DecidableEq,Inhabited
def CK (x:Ac):List C:=[Aa ((x).Kind),Aa ((x).N)]
structure Ag where
 Zone:Int
 Who:Int
 Self:Int
 Types:Int
 NotTypes:Int
 Colors:Int
 NotColors:Int
 Sub:List UInt8
 Keys:Int
 Tap:Int
 Power:Ac
 Tough:Ac
 Value:Ac
 deriving DecidableEq,Inhabited
def As (x:Ag):List C:=[Aa ((x).Zone),Aa ((x).Who),Aa ((x).Self),Aa ((x).Types),Aa ((x).NotTypes),Aa ((x).Colors),Aa ((x).NotColors), .str ((x).Sub),Aa ((x).Keys),Aa ((x).Tap),Aa (((x).Power).Kind),Aa (((x).Power).N),Aa (((x).Tough).Kind),Aa (((x).Tough).N),Aa (((x).Value).Kind),Aa (((x).Value).N)]
structure Bq where
 Kind:Int
 N:Int
 M:Int
 Sub:List UInt8
 Filter:Ag
 deriving DecidableEq,Inhabited
def Ao (x:Bq):List C:=[Aa ((x).Kind),Aa ((x).N),Aa ((x).M), .str ((x).Sub),Aa (((x).Filter).Zone),Aa (((x).Filter).Who),Aa (((x).Filter).Self),Aa (((x).Filter).Types),Aa (((x).Filter).NotTypes),Aa (((x).Filter).Colors),Aa (((x).Filter).NotColors), .str (((x).Filter).Sub),Aa (((x).Filter).Keys),Aa (((x).Filter).Tap),Aa ((((x).Filter).Power).Kind),Aa ((((x).Filter).Power).N),Aa ((((x).Filter).Tough).Kind),Aa ((((x).Filter).Tough).N),Aa ((((x).Filter).Value).Kind),Aa ((((x).Filter).Value).N)]
theorem Kg (x:Bq):(Ao x).length =20:=rfl
structure B5 where
 Mana:AP
 Tap:Bool
 Sacrifice:Bool
 Life:Int
 deriving DecidableEq,Inhabited
def H8 (x:B5):List C:=[Aa (((x).Mana).Generic),Aa (((x).Mana).X),Aa ((((x).Mana).Color).x0),Aa ((((x).Mana).Color).x1),Aa ((((x).Mana).Color).x2),Aa ((((x).Mana).Color).x3),Aa ((((x).Mana).Color).x4), .bool ((x).Tap), .bool ((x).Sacrifice),Aa ((x).Life)]
structure Bs where
 When:Int
 Who:Int
 Filter:Ag
 deriving DecidableEq,Inhabited
def Fs (x:Bs):List C:=[Aa ((x).When),Aa ((x).Who),Aa (((x).Filter).Zone),Aa (((x).Filter).Who),Aa (((x).Filter).Self),Aa (((x).Filter).Types),Aa (((x).Filter).NotTypes),Aa (((x).Filter).Colors),Aa (((x).Filter).NotColors), .str (((x).Filter).Sub),Aa (((x).Filter).Keys),Aa (((x).Filter).Tap),Aa ((((x).Filter).Power).Kind),Aa ((((x).Filter).Power).N),Aa ((((x).Filter).Tough).Kind),Aa ((((x).Filter).Tough).N),Aa ((((x).Filter).Value).Kind),Aa ((((x).Filter).Value).N)]
structure CA where
 Player:Bool
 Object:Bool
 Filter:Ag
 deriving DecidableEq,Inhabited
def AZ (x:CA):List C:=[.bool ((x).Player), .bool ((x).Object),Aa (((x).Filter).Zone),Aa (((x).Filter).Who),Aa (((x).Filter).Self),Aa (((x).Filter).Types),Aa (((x).Filter).NotTypes),Aa (((x).Filter).Colors),Aa (((x).Filter).NotColors), .str (((x).Filter).Sub),Aa (((x).Filter).Keys),Aa (((x).Filter).Tap),Aa ((((x).Filter).Power).Kind),Aa ((((x).Filter).Power).N),Aa ((((x).Filter).Tough).Kind),Aa ((((x).Filter).Tough).N),Aa ((((x).Filter).Value).Kind),Aa ((((x).Filter).Value).N)]
theorem Na (x:CA):(AZ x).length =18:=rfl
structure HQ where
 Kind:Int
 N:Int
 Filter:Ag
 deriving DecidableEq,Inhabited
def Jx (x:HQ):List C:=[Aa ((x).Kind),Aa ((x).N),Aa (((x).Filter).Zone),Aa (((x).Filter).Who),Aa (((x).Filter).Self),Aa (((x).Filter).Types),Aa (((x).Filter).NotTypes),Aa (((x).Filter).Colors),Aa (((x).Filter).NotColors), .str (((x).Filter).Sub),Aa (((x).Filter).Keys),Aa (((x).Filter).Tap),Aa ((((x).Filter).Power).Kind),Aa ((((x).Filter).Power).N),Aa ((((x).Filter).Tough).Kind),Aa ((((x).Filter).Tough).N),Aa ((((x).Filter).Value).Kind),Aa ((((x).Filter).Value).N)]
structure Bm where
 Kind:Int
 N:Int
 Counter:Int
 Filter:Ag
 deriving DecidableEq,Inhabited
def Br (x:Bm):List C:=[Aa ((x).Kind),Aa ((x).N),Aa ((x).Counter),Aa (((x).Filter).Zone),Aa (((x).Filter).Who),Aa (((x).Filter).Self),Aa (((x).Filter).Types),Aa (((x).Filter).NotTypes),Aa (((x).Filter).Colors),Aa (((x).Filter).NotColors), .str (((x).Filter).Sub),Aa (((x).Filter).Keys),Aa (((x).Filter).Tap),Aa ((((x).Filter).Power).Kind),Aa ((((x).Filter).Power).N),Aa ((((x).Filter).Tough).Kind),Aa ((((x).Filter).Tough).N),Aa ((((x).Filter).Value).Kind),Aa ((((x).Filter).Value).N)]
structure Ar where
 Op:Int
 Ref:HQ
 Amount:Bm
 Counter:Int
 Zone:Int
 Card:List UInt8
 Filter:Ag
 Pool:A6 (Int)
 Mods:List (Bq)
 deriving DecidableEq,Inhabited
def An (x:Ar):List C:=[Aa ((x).Op),Aa (((x).Ref).Kind),Aa (((x).Ref).N),Aa ((((x).Ref).Filter).Zone),Aa ((((x).Ref).Filter).Who),Aa ((((x).Ref).Filter).Self),Aa ((((x).Ref).Filter).Types),Aa ((((x).Ref).Filter).NotTypes),Aa ((((x).Ref).Filter).Colors),Aa ((((x).Ref).Filter).NotColors), .str ((((x).Ref).Filter).Sub),Aa ((((x).Ref).Filter).Keys),Aa ((((x).Ref).Filter).Tap),Aa (((((x).Ref).Filter).Power).Kind),Aa (((((x).Ref).Filter).Power).N),Aa (((((x).Ref).Filter).Tough).Kind),Aa (((((x).Ref).Filter).Tough).N),Aa (((((x).Ref).Filter).Value).Kind),Aa (((((x).Ref).Filter).Value).N),Aa (((x).Amount).Kind),Aa (((x).Amount).N),Aa (((x).Amount).Counter),Aa ((((x).Amount).Filter).Zone),Aa ((((x).Amount).Filter).Who),Aa ((((x).Amount).Filter).Self),Aa ((((x).Amount).Filter).Types),Aa ((((x).Amount).Filter).NotTypes),Aa ((((x).Amount).Filter).Colors),Aa ((((x).Amount).Filter).NotColors), .str ((((x).Amount).Filter).Sub),Aa ((((x).Amount).Filter).Keys),Aa ((((x).Amount).Filter).Tap),Aa (((((x).Amount).Filter).Power).Kind),Aa (((((x).Amount).Filter).Power).N),Aa (((((x).Amount).Filter).Tough).Kind),Aa (((((x).Amount).Filter).Tough).N),Aa (((((x).Amount).Filter).Value).Kind),Aa (((((x).Amount).Filter).Value).N),Aa ((x).Counter),Aa ((x).Zone), .str ((x).Card),Aa (((x).Filter).Zone),Aa (((x).Filter).Who),Aa (((x).Filter).Self),Aa (((x).Filter).Types),Aa (((x).Filter).NotTypes),Aa (((x).Filter).Colors),Aa (((x).Filter).NotColors), .str (((x).Filter).Sub),Aa (((x).Filter).Keys),Aa (((x).Filter).Tap),Aa ((((x).Filter).Power).Kind),Aa ((((x).Filter).Power).N),Aa ((((x).Filter).Tough).Kind),Aa ((((x).Filter).Tough).N),Aa ((((x).Filter).Value).Kind),Aa ((((x).Filter).Value).N),Aa (((x).Pool).x0),Aa (((x).Pool).x1),Aa (((x).Pool).x2),Aa (((x).Pool).x3),Aa (((x).Pool).x4),Aa (((x).Pool).x5), .sl ((x).Mods).length (((x).Mods).flatMap (Ao))]
theorem JF (x:Ar):(An x).length =64:=rfl
structure AA where
 On:Int
 Who:Int
 Filter:Ag
 Do:Int
 N:Int
 Zone:Int
 Counter:Int
 deriving DecidableEq,Inhabited
def AX (x:AA):List C:=[Aa ((x).On),Aa ((x).Who),Aa (((x).Filter).Zone),Aa (((x).Filter).Who),Aa (((x).Filter).Self),Aa (((x).Filter).Types),Aa (((x).Filter).NotTypes),Aa (((x).Filter).Colors),Aa (((x).Filter).NotColors), .str (((x).Filter).Sub),Aa (((x).Filter).Keys),Aa (((x).Filter).Tap),Aa ((((x).Filter).Power).Kind),Aa ((((x).Filter).Power).N),Aa ((((x).Filter).Tough).Kind),Aa ((((x).Filter).Tough).N),Aa ((((x).Filter).Value).Kind),Aa ((((x).Filter).Value).N),Aa ((x).Do),Aa ((x).N),Aa ((x).Zone),Aa ((x).Counter)]
structure Ay where
 Kind:Int
 Filter:Ag
 Mods:List (Bq)
 Price:B5
 Slow:Bool
 Trigger:Bs
 May:Bool
 Specs:List (CA)
 Effects:List (Ar)
 Replace:AA
 deriving DecidableEq,Inhabited
def Bc (x:Ay):List C:=[Aa ((x).Kind),Aa (((x).Filter).Zone),Aa (((x).Filter).Who),Aa (((x).Filter).Self),Aa (((x).Filter).Types),Aa (((x).Filter).NotTypes),Aa (((x).Filter).Colors),Aa (((x).Filter).NotColors), .str (((x).Filter).Sub),Aa (((x).Filter).Keys),Aa (((x).Filter).Tap),Aa ((((x).Filter).Power).Kind),Aa ((((x).Filter).Power).N),Aa ((((x).Filter).Tough).Kind),Aa ((((x).Filter).Tough).N),Aa ((((x).Filter).Value).Kind),Aa ((((x).Filter).Value).N), .sl ((x).Mods).length (((x).Mods).flatMap (Ao)),Aa ((((x).Price).Mana).Generic),Aa ((((x).Price).Mana).X),Aa (((((x).Price).Mana).Color).x0),Aa (((((x).Price).Mana).Color).x1),Aa (((((x).Price).Mana).Color).x2),Aa (((((x).Price).Mana).Color).x3),Aa (((((x).Price).Mana).Color).x4), .bool (((x).Price).Tap), .bool (((x).Price).Sacrifice),Aa (((x).Price).Life), .bool ((x).Slow),Aa (((x).Trigger).When),Aa (((x).Trigger).Who),Aa ((((x).Trigger).Filter).Zone),Aa ((((x).Trigger).Filter).Who),Aa ((((x).Trigger).Filter).Self),Aa ((((x).Trigger).Filter).Types),Aa ((((x).Trigger).Filter).NotTypes),Aa ((((x).Trigger).Filter).Colors),Aa ((((x).Trigger).Filter).NotColors), .str ((((x).Trigger).Filter).Sub),Aa ((((x).Trigger).Filter).Keys),Aa ((((x).Trigger).Filter).Tap),Aa (((((x).Trigger).Filter).Power).Kind),Aa (((((x).Trigger).Filter).Power).N),Aa (((((x).Trigger).Filter).Tough).Kind),Aa (((((x).Trigger).Filter).Tough).N),Aa (((((x).Trigger).Filter).Value).Kind),Aa (((((x).Trigger).Filter).Value).N), .bool ((x).May), .sl ((x).Specs).length (((x).Specs).flatMap (AZ)), .sl ((x).Effects).length (((x).Effects).flatMap (An)),Aa (((x).Replace).On),Aa (((x).Replace).Who),Aa ((((x).Replace).Filter).Zone),Aa ((((x).Replace).Filter).Who),Aa ((((x).Replace).Filter).Self),Aa ((((x).Replace).Filter).Types),Aa ((((x).Replace).Filter).NotTypes),Aa ((((x).Replace).Filter).Colors),Aa ((((x).Replace).Filter).NotColors), .str ((((x).Replace).Filter).Sub),Aa ((((x).Replace).Filter).Keys),Aa ((((x).Replace).Filter).Tap),Aa (((((x).Replace).Filter).Power).Kind),Aa (((((x).Replace).Filter).Power).N),Aa (((((x).Replace).Filter).Tough).Kind),Aa (((((x).Replace).Filter).Tough).N),Aa (((((x).Replace).Filter).Value).Kind),Aa (((((x).Replace).Filter).Value).N),Aa (((x).Replace).Do),Aa (((x).Replace).N),Aa (((x).Replace).Zone),Aa (((x).Replace).Counter)]
structure E1 where
 Name:List UInt8
 Token:Bool
 Cost:AP
 Color:Int
 Line:gX
 Power:Int
 Tough:Int
 Keys:Int
 Abilities:List (Ay)
 deriving DecidableEq,Inhabited
def G9 (x:E1):List C:=[.str ((x).Name), .bool ((x).Token),Aa (((x).Cost).Generic),Aa (((x).Cost).X),Aa ((((x).Cost).Color).x0),Aa ((((x).Cost).Color).x1),Aa ((((x).Cost).Color).x2),Aa ((((x).Cost).Color).x3),Aa ((((x).Cost).Color).x4),Aa ((x).Color),Aa (((x).Line).Super),Aa (((x).Line).Types), .sl (((x).Line).Subs).length ((((x).Line).Subs).flatMap (eS)),Aa ((x).Power),Aa ((x).Tough),Aa ((x).Keys), .sl ((x).Abilities).length (((x).Abilities).flatMap (Bc))]
structure AB where
 Life:Int
 Venom:Int
 Lands:Int
 Pool:A6 (Int)
 Failed:Bool
 Lost:Bool
 Library:List (Int)
 Hand:List (Int)
 Graveyard:List (Int)
 deriving DecidableEq,Inhabited
def Ah (x:AB):List C:=[Aa ((x).Life),Aa ((x).Venom),Aa ((x).Lands),Aa (((x).Pool).x0),Aa (((x).Pool).x1),Aa (((x).Pool).x2),Aa (((x).Pool).x3),Aa (((x).Pool).x4),Aa (((x).Pool).x5), .bool ((x).Failed), .bool ((x).Lost), .sl ((x).Library).length (((x).Library).flatMap (eI .i64)), .sl ((x).Hand).length (((x).Hand).flatMap (eI .i64)), .sl ((x).Graveyard).length (((x).Graveyard).flatMap (eI .i64))]
theorem Cp (x:AB):(Ah x).length =14:=rfl
structure Al where
 Id:Int
 Card:Int
 Owner:Int
 Control:Int
 Zone:Int
 Token:Bool
 Tapped:Bool
 Sick:Bool
 Deadly:Bool
 Damage:Int
 Counters:A3 (Int)
 Stamp:Int
 Copy:Int
 Attack:Int
 Blocked:Bool
 Blocks:Int
 Shield:Int
 deriving DecidableEq,Inhabited
def Ad (x:Al):List C:=[Aa ((x).Id),Aa ((x).Card),Aa ((x).Owner),Aa ((x).Control),Aa ((x).Zone), .bool ((x).Token), .bool ((x).Tapped), .bool ((x).Sick), .bool ((x).Deadly),Aa ((x).Damage),Aa (((x).Counters).x0),Aa (((x).Counters).x1),Aa (((x).Counters).x2),Aa ((x).Stamp),Aa ((x).Copy),Aa ((x).Attack), .bool ((x).Blocked),Aa ((x).Blocks),Aa ((x).Shield)]
theorem Eh (x:Al):(Ad x).length =19:=rfl
structure DJ where
 Object:Int
 Player:Int
 deriving DecidableEq,Inhabited
def Bl (x:DJ):List C:=[Aa ((x).Object),Aa ((x).Player)]
theorem Wj (x:DJ):(Bl x).length =2:=rfl
structure Qc where
 Kind:Int
 Source:Int
 Object:Int
 Player:Int
 Amount:Int
 From:Int
 To:Int
 Cause:Int
 Counter:Int
 Card:Int
 Combat:Bool
 Tapped:Bool
 Extra:A3 (Int)
 deriving DecidableEq,Inhabited
def QZ (x:Qc):List C:=[Aa ((x).Kind),Aa ((x).Source),Aa ((x).Object),Aa ((x).Player),Aa ((x).Amount),Aa ((x).From),Aa ((x).To),Aa ((x).Cause),Aa ((x).Counter),Aa ((x).Card), .bool ((x).Combat), .bool ((x).Tapped),Aa (((x).Extra).x0),Aa (((x).Extra).x1),Aa (((x).Extra).x2)]
structure Cb where
 Id:Int
 Kind:Int
 Source:Int
 Control:Int
 X:Int
 Copy:Bool
 Ability:Ay
 Targets:List (DJ)
 Event:Qc
 deriving DecidableEq,Inhabited
def Au (x:Cb):List C:=[Aa ((x).Id),Aa ((x).Kind),Aa ((x).Source),Aa ((x).Control),Aa ((x).X), .bool ((x).Copy),Aa (((x).Ability).Kind),Aa ((((x).Ability).Filter).Zone),Aa ((((x).Ability).Filter).Who),Aa ((((x).Ability).Filter).Self),Aa ((((x).Ability).Filter).Types),Aa ((((x).Ability).Filter).NotTypes),Aa ((((x).Ability).Filter).Colors),Aa ((((x).Ability).Filter).NotColors), .str ((((x).Ability).Filter).Sub),Aa ((((x).Ability).Filter).Keys),Aa ((((x).Ability).Filter).Tap),Aa (((((x).Ability).Filter).Power).Kind),Aa (((((x).Ability).Filter).Power).N),Aa (((((x).Ability).Filter).Tough).Kind),Aa (((((x).Ability).Filter).Tough).N),Aa (((((x).Ability).Filter).Value).Kind),Aa (((((x).Ability).Filter).Value).N), .sl (((x).Ability).Mods).length ((((x).Ability).Mods).flatMap (Ao)),Aa (((((x).Ability).Price).Mana).Generic),Aa (((((x).Ability).Price).Mana).X),Aa ((((((x).Ability).Price).Mana).Color).x0),Aa ((((((x).Ability).Price).Mana).Color).x1),Aa ((((((x).Ability).Price).Mana).Color).x2),Aa ((((((x).Ability).Price).Mana).Color).x3),Aa ((((((x).Ability).Price).Mana).Color).x4), .bool ((((x).Ability).Price).Tap), .bool ((((x).Ability).Price).Sacrifice),Aa ((((x).Ability).Price).Life), .bool (((x).Ability).Slow),Aa ((((x).Ability).Trigger).When),Aa ((((x).Ability).Trigger).Who),Aa (((((x).Ability).Trigger).Filter).Zone),Aa (((((x).Ability).Trigger).Filter).Who),Aa (((((x).Ability).Trigger).Filter).Self),Aa (((((x).Ability).Trigger).Filter).Types),Aa (((((x).Ability).Trigger).Filter).NotTypes),Aa (((((x).Ability).Trigger).Filter).Colors),Aa (((((x).Ability).Trigger).Filter).NotColors), .str (((((x).Ability).Trigger).Filter).Sub),Aa (((((x).Ability).Trigger).Filter).Keys),Aa (((((x).Ability).Trigger).Filter).Tap),Aa ((((((x).Ability).Trigger).Filter).Power).Kind),Aa ((((((x).Ability).Trigger).Filter).Power).N),Aa ((((((x).Ability).Trigger).Filter).Tough).Kind),Aa ((((((x).Ability).Trigger).Filter).Tough).N),Aa ((((((x).Ability).Trigger).Filter).Value).Kind),Aa ((((((x).Ability).Trigger).Filter).Value).N), .bool (((x).Ability).May), .sl (((x).Ability).Specs).length ((((x).Ability).Specs).flatMap (AZ)), .sl (((x).Ability).Effects).length ((((x).Ability).Effects).flatMap (An)),Aa ((((x).Ability).Replace).On),Aa ((((x).Ability).Replace).Who),Aa (((((x).Ability).Replace).Filter).Zone),Aa (((((x).Ability).Replace).Filter).Who),Aa (((((x).Ability).Replace).Filter).Self),Aa (((((x).Ability).Replace).Filter).Types),Aa (((((x).Ability).Replace).Filter).NotTypes),Aa (((((x).Ability).Replace).Filter).Colors),Aa (((((x).Ability).Replace).Filter).NotColors), .str (((((x).Ability).Replace).Filter).Sub),Aa (((((x).Ability).Replace).Filter).Keys),Aa (((((x).Ability).Replace).Filter).Tap),Aa ((((((x).Ability).Replace).Filter).Power).Kind),Aa ((((((x).Ability).Replace).Filter).Power).N),Aa ((((((x).Ability).Replace).Filter).Tough).Kind),Aa ((((((x).Ability).Replace).Filter).Tough).N),Aa ((((((x).Ability).Replace).Filter).Value).Kind),Aa ((((((x).Ability).Replace).Filter).Value).N),Aa ((((x).Ability).Replace).Do),Aa ((((x).Ability).Replace).N),Aa ((((x).Ability).Replace).Zone),Aa ((((x).Ability).Replace).Counter), .sl ((x).Targets).length (((x).Targets).flatMap (Bl)),Aa (((x).Event).Kind),Aa (((x).Event).Source),Aa (((x).Event).Object),Aa (((x).Event).Player),Aa (((x).Event).Amount),Aa (((x).Event).From),Aa (((x).Event).To),Aa (((x).Event).Cause),Aa (((x).Event).Counter),Aa (((x).Event).Card), .bool (((x).Event).Combat), .bool (((x).Event).Tapped),Aa ((((x).Event).Extra).x0),Aa ((((x).Event).Extra).x1),Aa ((((x).Event).Extra).x2)]
theorem Ha (x:Cb):(Au x).length =94:=rfl
structure BI where
 Source:Int
 Control:Int
 Ability:Ay
 Event:Qc
 deriving DecidableEq,Inhabited
def Aq (x:BI):List C:=[Aa ((x).Source),Aa ((x).Control),Aa (((x).Ability).Kind),Aa ((((x).Ability).Filter).Zone),Aa ((((x).Ability).Filter).Who),Aa ((((x).Ability).Filter).Self),Aa ((((x).Ability).Filter).Types),Aa ((((x).Ability).Filter).NotTypes),Aa ((((x).Ability).Filter).Colors),Aa ((((x).Ability).Filter).NotColors), .str ((((x).Ability).Filter).Sub),Aa ((((x).Ability).Filter).Keys),Aa ((((x).Ability).Filter).Tap),Aa (((((x).Ability).Filter).Power).Kind),Aa (((((x).Ability).Filter).Power).N),Aa (((((x).Ability).Filter).Tough).Kind),Aa (((((x).Ability).Filter).Tough).N),Aa (((((x).Ability).Filter).Value).Kind),Aa (((((x).Ability).Filter).Value).N), .sl (((x).Ability).Mods).length ((((x).Ability).Mods).flatMap (Ao)),Aa (((((x).Ability).Price).Mana).Generic),Aa (((((x).Ability).Price).Mana).X),Aa ((((((x).Ability).Price).Mana).Color).x0),Aa ((((((x).Ability).Price).Mana).Color).x1),Aa ((((((x).Ability).Price).Mana).Color).x2),Aa ((((((x).Ability).Price).Mana).Color).x3),Aa ((((((x).Ability).Price).Mana).Color).x4), .bool ((((x).Ability).Price).Tap), .bool ((((x).Ability).Price).Sacrifice),Aa ((((x).Ability).Price).Life), .bool (((x).Ability).Slow),Aa ((((x).Ability).Trigger).When),Aa ((((x).Ability).Trigger).Who),Aa (((((x).Ability).Trigger).Filter).Zone),Aa (((((x).Ability).Trigger).Filter).Who),Aa (((((x).Ability).Trigger).Filter).Self),Aa (((((x).Ability).Trigger).Filter).Types),Aa (((((x).Ability).Trigger).Filter).NotTypes),Aa (((((x).Ability).Trigger).Filter).Colors),Aa (((((x).Ability).Trigger).Filter).NotColors), .str (((((x).Ability).Trigger).Filter).Sub),Aa (((((x).Ability).Trigger).Filter).Keys),Aa (((((x).Ability).Trigger).Filter).Tap),Aa ((((((x).Ability).Trigger).Filter).Power).Kind),Aa ((((((x).Ability).Trigger).Filter).Power).N),Aa ((((((x).Ability).Trigger).Filter).Tough).Kind),Aa ((((((x).Ability).Trigger).Filter).Tough).N),Aa ((((((x).Ability).Trigger).Filter).Value).Kind),Aa ((((((x).Ability).Trigger).Filter).Value).N), .bool (((x).Ability).May), .sl (((x).Ability).Specs).length ((((x).Ability).Specs).flatMap (AZ)), .sl (((x).Ability).Effects).length ((((x).Ability).Effects).flatMap (An)),Aa ((((x).Ability).Replace).On),Aa ((((x).Ability).Replace).Who),Aa (((((x).Ability).Replace).Filter).Zone),Aa (((((x).Ability).Replace).Filter).Who),Aa (((((x).Ability).Replace).Filter).Self),Aa (((((x).Ability).Replace).Filter).Types),Aa (((((x).Ability).Replace).Filter).NotTypes),Aa (((((x).Ability).Replace).Filter).Colors),Aa (((((x).Ability).Replace).Filter).NotColors), .str (((((x).Ability).Replace).Filter).Sub),Aa (((((x).Ability).Replace).Filter).Keys),Aa (((((x).Ability).Replace).Filter).Tap),Aa ((((((x).Ability).Replace).Filter).Power).Kind),Aa ((((((x).Ability).Replace).Filter).Power).N),Aa ((((((x).Ability).Replace).Filter).Tough).Kind),Aa ((((((x).Ability).Replace).Filter).Tough).N),Aa ((((((x).Ability).Replace).Filter).Value).Kind),Aa ((((((x).Ability).Replace).Filter).Value).N),Aa ((((x).Ability).Replace).Do),Aa ((((x).Ability).Replace).N),Aa ((((x).Ability).Replace).Zone),Aa ((((x).Ability).Replace).Counter),Aa (((x).Event).Kind),Aa (((x).Event).Source),Aa (((x).Event).Object),Aa (((x).Event).Player),Aa (((x).Event).Amount),Aa (((x).Event).From),Aa (((x).Event).To),Aa (((x).Event).Cause),Aa (((x).Event).Counter),Aa (((x).Event).Card), .bool (((x).Event).Combat), .bool (((x).Event).Tapped),Aa ((((x).Event).Extra).x0),Aa ((((x).Event).Extra).x1),Aa ((((x).Event).Extra).x2)]
theorem JV (x:BI):(Aq x).length =89:=rfl
structure E9 where
 Stamp:Int
 Control:Int
 Source:Int
 Until:Int
 Objects:List (Int)
 Mods:List (Bq)
 deriving DecidableEq,Inhabited
def AF (x:E9):List C:=[Aa ((x).Stamp),Aa ((x).Control),Aa ((x).Source),Aa ((x).Until), .sl ((x).Objects).length (((x).Objects).flatMap (eI .i64)), .sl ((x).Mods).length (((x).Mods).flatMap (Ao))]
theorem Kh (x:E9):(AF x).length =6:=rfl
structure Ai where
 Players:List (AB)
 Objects:List (Al)
 Battlefield:List (Int)
 Exile:List (Int)
 Stack:List (Cb)
 Waiting:List (BI)
 Conts:List (E9)
 Turn:Int
 Active:Int
 Step:Int
 Begun:Bool
 Priority:Int
 Passes:Int
 NextId:Int
 NextStamp:Int
 Seed:Int
 Extra:List (Int)
 Over:Int
 Winner:Int
 deriving DecidableEq,Inhabited
def Aj (x:Ai):List C:=[.sl ((x).Players).length (((x).Players).flatMap (Ah)), .sl ((x).Objects).length (((x).Objects).flatMap (Ad)), .sl ((x).Battlefield).length (((x).Battlefield).flatMap (eI .i64)), .sl ((x).Exile).length (((x).Exile).flatMap (eI .i64)), .sl ((x).Stack).length (((x).Stack).flatMap (Au)), .sl ((x).Waiting).length (((x).Waiting).flatMap (Aq)), .sl ((x).Conts).length (((x).Conts).flatMap (AF)),Aa ((x).Turn),Aa ((x).Active),Aa ((x).Step), .bool ((x).Begun),Aa ((x).Priority),Aa ((x).Passes),Aa ((x).NextId),Aa ((x).NextStamp), .int .u64 ((x).Seed), .sl ((x).Extra).length (((x).Extra).flatMap (eI .i64)),Aa ((x).Over),Aa ((x).Winner)]
structure BC where
 ref:Bool
 amount:Bool
 counter:Bool
 zone:Bool
 card:Bool
 filter:Bool
 pool:Bool
 mods:Bool
 deriving DecidableEq,Inhabited
def Eu (x:BC):List C:=[.bool ((x).ref), .bool ((x).amount), .bool ((x).counter), .bool ((x).zone), .bool ((x).card), .bool ((x).filter), .bool ((x).pool), .bool ((x).mods)]
def sP (cs:List C):Al:=(⟨AQ (cs.getD 0 .any),AQ (cs.getD 1 .any),AQ (cs.getD 2 .any),AQ (cs.getD 3 .any),AQ (cs.getD 4 .any),VT (cs.getD 5 .any),VT (cs.getD 6 .any),VT (cs.getD 7 .any),VT (cs.getD 8 .any),AQ (cs.getD 9 .any),(⟨AQ (cs.getD 10 .any),AQ (cs.getD 11 .any),AQ (cs.getD 12 .any)⟩:A3 (Int)),AQ (cs.getD 13 .any),AQ (cs.getD 14 .any),AQ (cs.getD 15 .any),VT (cs.getD 16 .any),AQ (cs.getD 17 .any),AQ (cs.getD 18 .any)⟩:Al)
theorem gY (a b:Al):Fo (Ad a) (Ad b)=(a==b):=Fp (Ad) sP (fun _=>rfl) (fun _=>rfl) (fun _ _=>rfl) a b
def sQ (cs:List C):A3 (Int):=(⟨AQ (cs.getD 0 .any),AQ (cs.getD 1 .any),AQ (cs.getD 2 .any)⟩:A3 (Int))
theorem pD (a b:A3 (Int)):Fo (UM (eI .i64) a) (UM (eI .i64) b)=(a==b):=Fp (UM (eI .i64)) sQ (fun _=>rfl) (fun _=>rfl) (fun _ _=>rfl) a b
def sR (cs:List C):Ag:=(⟨AQ (cs.getD 0 .any),AQ (cs.getD 1 .any),AQ (cs.getD 2 .any),AQ (cs.getD 3 .any),AQ (cs.getD 4 .any),AQ (cs.getD 5 .any),AQ (cs.getD 6 .any),aS (cs.getD 7 .any),AQ (cs.getD 8 .any),AQ (cs.getD 9 .any),(⟨AQ (cs.getD 10 .any),AQ (cs.getD 11 .any)⟩:Ac),(⟨AQ (cs.getD 12 .any),AQ (cs.getD 13 .any)⟩:Ac),(⟨AQ (cs.getD 14 .any),AQ (cs.getD 15 .any)⟩:Ac)⟩:Ag)
theorem Nb (a b:Ag):Fo (As a) (As b)=(a==b):=Fp (As) sR (fun _=>rfl) (fun _=>rfl) (fun _ _=>rfl) a b
def qW (cs:List C):Bq:=(⟨AQ (cs.getD 0 .any),AQ (cs.getD 1 .any),AQ (cs.getD 2 .any),aS (cs.getD 3 .any),(⟨AQ (cs.getD 4 .any),AQ (cs.getD 5 .any),AQ (cs.getD 6 .any),AQ (cs.getD 7 .any),AQ (cs.getD 8 .any),AQ (cs.getD 9 .any),AQ (cs.getD 10 .any),aS (cs.getD 11 .any),AQ (cs.getD 12 .any),AQ (cs.getD 13 .any),(⟨AQ (cs.getD 14 .any),AQ (cs.getD 15 .any)⟩:Ac),(⟨AQ (cs.getD 16 .any),AQ (cs.getD 17 .any)⟩:Ac),(⟨AQ (cs.getD 18 .any),AQ (cs.getD 19 .any)⟩:Ac)⟩:Ag)⟩:Bq)
theorem Zp (a b:Bq):Fo (Ao a) (Ao b)=(a==b):=Fp (Ao) qW (fun _=>rfl) (fun _=>rfl) (fun _ _=>rfl) a b
def sS (cs:List C):B5:=(⟨(⟨AQ (cs.getD 0 .any),AQ (cs.getD 1 .any),(⟨AQ (cs.getD 2 .any),AQ (cs.getD 3 .any),AQ (cs.getD 4 .any),AQ (cs.getD 5 .any),AQ (cs.getD 6 .any)⟩:A5 (Int))⟩:AP),VT (cs.getD 7 .any),VT (cs.getD 8 .any),AQ (cs.getD 9 .any)⟩:B5)
theorem gZ (a b:B5):Fo (H8 a) (H8 b)=(a==b):=Fp (H8) sS (fun _=>rfl) (fun _=>rfl) (fun _ _=>rfl) a b
def sT (cs:List C):Bs:=(⟨AQ (cs.getD 0 .any),AQ (cs.getD 1 .any),(⟨AQ (cs.getD 2 .any),AQ (cs.getD 3 .any),AQ (cs.getD 4 .any),AQ (cs.getD 5 .any),AQ (cs.getD 6 .any),AQ (cs.getD 7 .any),AQ (cs.getD 8 .any),aS (cs.getD 9 .any),AQ (cs.getD 10 .any),AQ (cs.getD 11 .any),(⟨AQ (cs.getD 12 .any),AQ (cs.getD 13 .any)⟩:Ac),(⟨AQ (cs.getD 14 .any),AQ (cs.getD 15 .any)⟩:Ac),(⟨AQ (cs.getD 16 .any),AQ (cs.getD 17 .any)⟩:Ac)⟩:Ag)⟩:Bs)
theorem g0 (a b:Bs):Fo (Fs a) (Fs b)=(a==b):=Fp (Fs) sT (fun _=>rfl) (fun _=>rfl) (fun _ _=>rfl) a b
def qZ (cs:List C):CA:=(⟨VT (cs.getD 0 .any),VT (cs.getD 1 .any),(⟨AQ (cs.getD 2 .any),AQ (cs.getD 3 .any),AQ (cs.getD 4 .any),AQ (cs.getD 5 .any),AQ (cs.getD 6 .any),AQ (cs.getD 7 .any),AQ (cs.getD 8 .any),aS (cs.getD 9 .any),AQ (cs.getD 10 .any),AQ (cs.getD 11 .any),(⟨AQ (cs.getD 12 .any),AQ (cs.getD 13 .any)⟩:Ac),(⟨AQ (cs.getD 14 .any),AQ (cs.getD 15 .any)⟩:Ac),(⟨AQ (cs.getD 16 .any),AQ (cs.getD 17 .any)⟩:Ac)⟩:Ag)⟩:CA)
theorem lu (a b:CA):Fo (AZ a) (AZ b)=(a==b):=Fp (AZ) qZ (fun _=>rfl) (fun _=>rfl) (fun _ _=>rfl) a b
def rc (cs:List C):HQ:=(⟨AQ (cs.getD 0 .any),AQ (cs.getD 1 .any),(⟨AQ (cs.getD 2 .any),AQ (cs.getD 3 .any),AQ (cs.getD 4 .any),AQ (cs.getD 5 .any),AQ (cs.getD 6 .any),AQ (cs.getD 7 .any),AQ (cs.getD 8 .any),aS (cs.getD 9 .any),AQ (cs.getD 10 .any),AQ (cs.getD 11 .any),(⟨AQ (cs.getD 12 .any),AQ (cs.getD 13 .any)⟩:Ac),(⟨AQ (cs.getD 14 .any),AQ (cs.getD 15 .any)⟩:Ac),(⟨AQ (cs.getD 16 .any),AQ (cs.getD 17 .any)⟩:Ac)⟩:Ag)⟩:HQ)
theorem Zq (a b:HQ):Fo (Jx a) (Jx b)=(a==b):=Fp (Jx) rc (fun _=>rfl) (fun _=>rfl) (fun _ _=>rfl) a b
def rf (cs:List C):Bm:=(⟨AQ (cs.getD 0 .any),AQ (cs.getD 1 .any),AQ (cs.getD 2 .any),(⟨AQ (cs.getD 3 .any),AQ (cs.getD 4 .any),AQ (cs.getD 5 .any),AQ (cs.getD 6 .any),AQ (cs.getD 7 .any),AQ (cs.getD 8 .any),AQ (cs.getD 9 .any),aS (cs.getD 10 .any),AQ (cs.getD 11 .any),AQ (cs.getD 12 .any),(⟨AQ (cs.getD 13 .any),AQ (cs.getD 14 .any)⟩:Ac),(⟨AQ (cs.getD 15 .any),AQ (cs.getD 16 .any)⟩:Ac),(⟨AQ (cs.getD 17 .any),AQ (cs.getD 18 .any)⟩:Ac)⟩:Ag)⟩:Bm)
theorem Ty (a b:Bm):Fo (Br a) (Br b)=(a==b):=Fp (Br) rf (fun _=>rfl) (fun _=>rfl) (fun _ _=>rfl) a b
def sU (cs:List C):A6 (Int):=(⟨AQ (cs.getD 0 .any),AQ (cs.getD 1 .any),AQ (cs.getD 2 .any),AQ (cs.getD 3 .any),AQ (cs.getD 4 .any),AQ (cs.getD 5 .any)⟩:A6 (Int))
theorem Yu (a b:A6 (Int)):Fo (QY (eI .i64) a) (QY (eI .i64) b)=(a==b):=Fp (QY (eI .i64)) sU (fun _=>rfl) (fun _=>rfl) (fun _ _=>rfl) a b
def sV (cs:List C):AA:=(⟨AQ (cs.getD 0 .any),AQ (cs.getD 1 .any),(⟨AQ (cs.getD 2 .any),AQ (cs.getD 3 .any),AQ (cs.getD 4 .any),AQ (cs.getD 5 .any),AQ (cs.getD 6 .any),AQ (cs.getD 7 .any),AQ (cs.getD 8 .any),aS (cs.getD 9 .any),AQ (cs.getD 10 .any),AQ (cs.getD 11 .any),(⟨AQ (cs.getD 12 .any),AQ (cs.getD 13 .any)⟩:Ac),(⟨AQ (cs.getD 14 .any),AQ (cs.getD 15 .any)⟩:Ac),(⟨AQ (cs.getD 16 .any),AQ (cs.getD 17 .any)⟩:Ac)⟩:Ag),AQ (cs.getD 18 .any),AQ (cs.getD 19 .any),AQ (cs.getD 20 .any),AQ (cs.getD 21 .any)⟩:AA)
theorem bK (a b:AA):Fo (AX a) (AX b)=(a==b):=Fp (AX) sV (fun _=>rfl) (fun _=>rfl) (fun _ _=>rfl) a b
def sW (cs:List C):AP:=(⟨AQ (cs.getD 0 .any),AQ (cs.getD 1 .any),(⟨AQ (cs.getD 2 .any),AQ (cs.getD 3 .any),AQ (cs.getD 4 .any),AQ (cs.getD 5 .any),AQ (cs.getD 6 .any)⟩:A5 (Int))⟩:AP)
theorem pE (a b:AP):Fo (Bu a) (Bu b)=(a==b):=Fp (Bu) sW (fun _=>rfl) (fun _=>rfl) (fun _ _=>rfl) a b
def rh (cs:List C):DJ:=(⟨AQ (cs.getD 0 .any),AQ (cs.getD 1 .any)⟩:DJ)
theorem ri (a b:DJ):Fo (Bl a) (Bl b)=(a==b):=Fp (Bl) rh (fun _=>rfl) (fun _=>rfl) (fun _ _=>rfl) a b
def sX (cs:List C):Qc:=(⟨AQ (cs.getD 0 .any),AQ (cs.getD 1 .any),AQ (cs.getD 2 .any),AQ (cs.getD 3 .any),AQ (cs.getD 4 .any),AQ (cs.getD 5 .any),AQ (cs.getD 6 .any),AQ (cs.getD 7 .any),AQ (cs.getD 8 .any),AQ (cs.getD 9 .any),VT (cs.getD 10 .any),VT (cs.getD 11 .any),(⟨AQ (cs.getD 12 .any),AQ (cs.getD 13 .any),AQ (cs.getD 14 .any)⟩:A3 (Int))⟩:Qc)
theorem pF (a b:Qc):Fo (QZ a) (QZ b)=(a==b):=Fp (QZ) sX (fun _=>rfl) (fun _=>rfl) (fun _ _=>rfl) a b
def Yv:List UInt8:=[45,45]
def H9:List UInt8:=[98,97,115,105,99]
def GL:List UInt8:=[117,110,105,113,117,101]
def CL:List UInt8:=[99,114,101,97,116,117,114,101]
def Dg:List UInt8:=[105,110,115,116,97,110,116]
def DN:List UInt8:=[114,105,116,117,97,108]
def EN:List UInt8:=[114,101,108,105,99]
def EO:List UInt8:=[99,104,97,114,109]
def F2:List UInt8:=[108,97,110,100]
def NN:List UInt8:=[99,111,110,116,114,111,108]
def NO:List UInt8:=[43]
def Pj:List UInt8:=[116,121,112,101,115,61]
def NP:List UInt8:=[116,121,112,101,115,43,61]
def SF:List UInt8:=[115,117,98,61]
def Q1:List UInt8:=[115,117,98,43,61]
def LH:List UInt8:=[110,111,110,101]
def NQ:List UInt8:=[99,111,108,111,114,115,61]
def Mp:List UInt8:=[99,111,108,111,114,115,43,61]
def GM:List UInt8:=[102,108,121,105,110,103]
def Ia:List UInt8:=[114,101,97,99,104]
def Ib:List UInt8:=[104,97,115,116,101]
def Ey:List UInt8:=[118,105,103,105,108,97,110,116]
def Ft:List UInt8:=[116,114,97,109,112,108,101]
def JW:List UInt8:=[102,105,114,115,116]
def KZ:List UInt8:=[100,111,117,98,108,101]
def Qd:List UInt8:=[45,115,116,114,105,107,101]
def GN:List UInt8:=[100,101,97,100,108,121]
def Ez:List UInt8:=[108,105,102,101,108,105,110,107]
def GO:List UInt8:=[109,101,110,97,99,101]
def EA:List UInt8:=[100,101,102,101,110,100,101,114]
def GP:List UInt8:=[119,97,114,100,101,100]
def GQ:List UInt8:=[115,116,117,114,100,121]
def Fu:List UInt8:=[101,108,117,115,105,118,101]
def Qe:List UInt8:=[110,111]
def OF:List UInt8:=[109,117,115,116]
def Qf:List UInt8:=[45,97,116,116,97,99,107]
def EB:List UInt8:=[110,111,45,98,108,111,99,107]
def Pk:List UInt8:=[107,101,121,115,43,61]
def HI:List UInt8:=[107,101,121,115,45,61]
def Q3:List UInt8:=[98,108,97,110,107]
def JX:List UInt8:=[105,110,45,104,97,110,100]
def F3:List UInt8:=[105,110,45,108,105,98,114,97,114,121]
def EP:List UInt8:=[105,110,45,103,114,97,118,101,121,97,114,100]
def Ic:List UInt8:=[105,110,45,101,120,105,108,101]
def Ie:List UInt8:=[111,110,45,115,116,97,99,107]
def Hp:List UInt8:=[121,111,117,114,115]
def FN:List UInt8:=[116,104,101,105,114,115]
def Ki:List UInt8:=[115,101,108,102]
def If:List UInt8:=[111,116,104,101,114]
def C6:List UInt8:=[110,111,110,45]
def Lm:List UInt8:=[115,117,98,58]
def Cx:List UInt8:=[119,105,116,104,58]
def E2:List UInt8:=[116,97,112,112,101,100]
def Dt:List UInt8:=[117,110,116,97,112,112,101,100]
def Yw:List UInt8:=[112,111,119,101,114]
def JY:List UInt8:=[62,61]
def JZ:List UInt8:=[60,61]
def NR:List UInt8:=[61]
def Yx:List UInt8:=[116,111,117,103,104]
def Yy:List UInt8:=[118,97,108,117,101]
def Pl:List UInt8:=[97,110,121]
def Zr:List UInt8:=[32]
def Ln:List UInt8:=[112,116,61,99,111,117,110,116,40]
def Vo:List UInt8:=[41]
def Vp:List UInt8:=[112,116,61]
def NS:List UInt8:=[47]
def SG:List UInt8:=[112,116,43,61]
def Lo:List UInt8:=[112,116,45,115,119,105,116,99,104]
def F4:List UInt8:=[44,32]
def SH:List UInt8:=[91,112,108,97,121,101,114,93]
def g5:List UInt8:=[40]
def Yz:List UInt8:=[41,93]
def PJ:List UInt8:=[91,112,108,97,121,101,114,32,111,114,32]
def g6:List UInt8:=[91]
def Nc:List UInt8:=[100,97,109,97,103,101]
def LI:List UInt8:=[100,101,115,116,114,111,121]
def Qg:List UInt8:=[109,111,118,101]
def Qh:List UInt8:=[100,114,97,119]
def LJ:List UInt8:=[100,105,115,99,97,114,100]
def Qi:List UInt8:=[103,97,105,110]
def Qj:List UInt8:=[108,111,115,101]
def Pm:List UInt8:=[116,97,112]
def OG:List UInt8:=[117,110,116,97,112]
def SI:List UInt8:=[112,117,116]
def Qk:List UInt8:=[116,97,107,101]
def Nd:List UInt8:=[99,114,101,97,116,101]
def SJ:List UInt8:=[109,111,100]
def Ql:List UInt8:=[109,97,110,97]
def LK:List UInt8:=[99,111,117,110,116,101,114]
def Qm:List UInt8:=[99,111,112,121]
def Nf:List UInt8:=[98,101,99,111,109,101]
def FO:List UInt8:=[115,97,99,114,105,102,105,99,101]
def Qn:List UInt8:=[109,105,108,108]
def Qo:List UInt8:=[115,99,114,121]
def Nh:List UInt8:=[115,101,97,114,99,104]
def Ni:List UInt8:=[115,104,105,101,108,100]
def Qp:List UInt8:=[116,117,114,110]
def SK:List UInt8:=[119,105,110]
def Nk:List UInt8:=[100,101,102,101,97,116]
def OH:List UInt8:=[118,101,110,111,109]
def Ru:List UInt8:=[48]
def g8:List UInt8:=[88]
def OI:List UInt8:=[65,67,74,82,69]
def YA:List UInt8:=[108,105,102,101,32]
def g9:List UInt8:=[123]
def hD:List UInt8:=[125]
def Zs:List UInt8:=[121,111,117]
def N9:List UInt8:=[111,112,112,111,110,101,110,116,115]
def YB:List UInt8:=[97,109,98,101,114]
def Wl:List UInt8:=[99,111,98,97,108,116]
def hH:List UInt8:=[106,101,116]
def bL:List UInt8:=[114,117,98,121]
def Uw:List UInt8:=[101,109,101,114,97,108,100]
def K0:List UInt8:=[102,105,114,115,116,45,115,116,114,105,107,101]
def Kj:List UInt8:=[100,111,117,98,108,101,45,115,116,114,105,107,101]
def Oa:List UInt8:=[110,111,45,97,116,116,97,99,107]
def L6:List UInt8:=[109,117,115,116,45,97,116,116,97,99,107]
def nW:List UInt8:=[45]
def RS:List UInt8:=[101,110,116,101,114,115]
def RT:List UInt8:=[108,101,97,118,101,115]
def Wm:List UInt8:=[100,105,101,115]
def Qq:List UInt8:=[97,116,116,97,99,107,115]
def RU:List UInt8:=[98,108,111,99,107,115]
def Tz:List UInt8:=[100,101,97,108,115]
def TA:List UInt8:=[100,101,97,108,116]
def TB:List UInt8:=[100,114,97,119,115]
def TC:List UInt8:=[99,97,115,116,115]
def RV:List UInt8:=[117,112,107,101,101,112]
def Zt:List UInt8:=[101,110,100]
def TD:List UInt8:=[103,97,105,110,115]
def TE:List UInt8:=[108,111,115,101,115]
def RW:List UInt8:=[112,108,97,99,101,100]
def pG:List UInt8:=[114]
def lw:List UInt8:=[114,122]
def hP:List UInt8:=[114,107,97]
def hU:List UInt8:=[114,99,97]
def ly:List UInt8:=[114,109]
def pH:List UInt8:=[112]
def hY:List UInt8:=[114,97,102]
def pI:List UInt8:=[97]
def pJ:List UInt8:=[102]
def lz:List UInt8:=[114,97]
def bM:List UInt8:=[112,108,117,115]
def YC:List UInt8:=[109,105,110,117,115]
def Wn:List UInt8:=[99,104,97,114,103,101]
theorem Wo:Vx Tryz.prog 4=true:=by kernel_rfl
theorem lA:Jd Tryz.prog 107=true:=by kernel_rfl
theorem lB:Jd Tryz.prog 137=true:=by kernel_rfl
theorem Zu:Jd Tryz.prog 139=true:=by kernel_rfl
theorem fg:Jd Tryz.prog 184=true:=by kernel_rfl
theorem rj:Jd Tryz.prog 187=true:=by kernel_rfl
theorem rk:Jd Tryz.prog 191=true:=by kernel_rfl
theorem rm:Jd Tryz.prog 218=true:=by kernel_rfl
theorem lC:Jd Tryz.prog 219=true:=by kernel_rfl
theorem rn:Jd Tryz.prog 221=true:=by kernel_rfl
theorem sY:Jd Tryz.prog 31=true:=by kernel_rfl
theorem OJ:Jd Tryz.prog 37=true:=by kernel_rfl
theorem hZ:Jd Tryz.prog 41=true:=by kernel_rfl
theorem sZ:Jd Tryz.prog 43=true:=by kernel_rfl
theorem s2:Jd Tryz.prog 45=true:=by kernel_rfl
theorem pK:Jd Tryz.prog 49=true:=by kernel_rfl
theorem ia:Jd Tryz.prog 51=true:=by kernel_rfl
theorem pL:Jd Tryz.prog 53=true:=by kernel_rfl
theorem pM:Jd Tryz.prog 63=true:=by kernel_rfl
theorem lD:Jd Tryz.prog 71=true:=by kernel_rfl
end Go.PL
