/- The pure logic: PlA, PlB, PlC, PlD, PlE, PlF, PlG, PlH, PlI, PlJ, PlK, PlL, PlLe, PlM. -/
import Derived.WalkKit
import Derived.WalkSpells
import Derived.WalkLawsBesides
import Derived.Deep.MidRow
import Derived.Deep.LoopGhost
import Derived.Deep.QuietTactic
import Derived.BigQuiet
import Derived.Laws.StructEq
import Derived.DeepKeys
set_option linter.all false
namespace Go.PL
open Go Go.RowKit
abbrev AC:=List Nat
inductive C where
 | int (k:IntKind) (n:Int)
 | bool (b:Bool)
 | str (s:List UInt8)
 | sl (len:Nat) (cs:List C)
 | osl (id:AC)
 | ptr (id:AC) (off:Nat)
 | bsl (id:AC) (off len:Nat)
 | bld (id:AC) (T:TypeId)
 | iptr (cs:List C) (off:Nat)
 | nilp
 | niface
 | nils
 | fn (f:FuncId)
 | clo (f:FuncId) (cs:List C)
 | held
 | any
 | mref (id:AC)
 | gptr (g off:Nat)
 | bmv (f:FuncId) (cs:List C)
 | mp (kv:List (Int×Int))
 | isl (E:TypeId) (n len:Nat) (cs:List C)
inductive V where
 | c (x:C)
 | agg (cs:List C)
 | tup (vs:List V)
 | g (b:Bool) (v:V)
 | undef
structure Bj where
 blk:AC→Option Nat
 own:AC→Option Value
 wr:Nat→Prop
mutual
def C.pure:C→Bool
 | .osl _=>false
 | .ptr .. =>false
 | .bsl .. =>false
 | .bld .. =>false
 | .mref _=>false
 | .mp _=>false
 | .clo _ cs=>AH cs
 | .bmv _ cs=>AH cs
 | _=>true
def AH:List C→Bool
 | []=>true
 | c::cs=>c.pure&&AH cs
end
mutual
def Ap (w:World) (G:Bj):C→Value→Prop
 | .int k n,v=>v= .int k n
 | .bool b,v=>v= .bool b
 | .str s,v=>v= .string ⟨s.toArray⟩
 | .sl len cs,v=>AH cs=true∧ ∃ a cap,v= .slice a len cap∧len≤cap∧cap≤maxLen∧(len=0→cs=[])∧
  (len=0∨ ∃ b off,a=some ⟨b,off,none⟩∧ ¬G.wr b∧b<w.heap.size∧Au w G cs b off)
 | .osl id,v=>G.own id=some v∧v.oneCell'=true
 | .ptr id off,v=> ∃ b,G.blk id=some b∧v= .pointer (some ⟨b,off,none⟩)
 | .bsl id off len,v=> ∃ b cap,G.blk id=some b∧v= .slice (some ⟨b,off,none⟩) len cap∧len≤cap
 | .bld id T,v=> ∃ b,G.blk id=some b∧(∃ cur fz,w.heap[b]? =some (.cells cur T fz))∧(v= .pointer none∨v= .pointer (some ⟨b,0,none⟩))
 | .iptr cs off,v=>AH cs=true∧ ∃ b o,v= .pointer (some ⟨b,o+off,none⟩)∧ ¬G.wr b∧b<w.heap.size∧Au w G cs b o
 | .nilp,v=>v= .pointer none
 | .niface,v=>v= .nilIface
 | .nils,v=>v= .slice none 0 0
 | .fn f,v=>v= .func (.func f) #[] #[]
 | .clo f cs,v=> ∃ arr:Array Value,v= .func (.func f) #[] arr∧At w G cs arr.toList
 | .bmv f cs,v=> ∃ arr:Array Value,v= .func (.func f) arr #[]∧At w G cs arr.toList
 | .held,v=> ∃ t x,v= .iface t x
 | .any,v=>v.oneCell'=true
 | .mref id,v=> ∃ b,G.blk id=some b∧v= .map (some b)
 | .gptr g off,v=>v= .pointer (some ⟨g,off,none⟩)
 | .mp _,_=>False
 | .isl ..,v=>v.oneCell'=true
def Au (w:World) (G:Bj):List C→Nat→Nat→Prop
 | [],_,_=>True
 | c::cs,b,off=>(∃ v,w.cell? ⟨b,off,none⟩=some v∧Ap w G c v)∧Au w G cs b (off+1)
def At (w:World) (G:Bj):List C→List Value→Prop
 | [],[]=>True
 | c::cs,v::vs=>Ap w G c v∧At w G cs vs
 | [],_::_=>False
 | _::_,[]=>False
end
mutual
def Ak (w:World) (G:Bj):V→Value→Prop
 | .c x,v=>Ap w G x v
 | .agg cs,v=> ∃ arr,v= .agg arr∧At w G cs arr.toList
 | .tup vs,v=> ∃ arr,v= .tuple arr∧AJ w G vs arr.toList
 | .g b x,v=>if b=true then Ak w G x v else v=Go.undef
 | .undef,_=>True
def AJ (w:World) (G:Bj):List V→List Value→Prop
 | [],vs=>vs=[]
 | x::xs,vs=> ∃ v r,vs=v::r∧Ak w G x v∧AJ w G xs r
end
mutual
def C.men (id:AC):C→Bool
 | .osl i=>i==id
 | .ptr i _=>i==id
 | .bsl i _ _=>i==id
 | .bld i _=>i==id
 | .mref i=>i==id
 | .clo _ cs=>Ck id cs
 | .bmv _ cs=>Ck id cs
 | _=>false
def Ck (id:AC):List C→Bool
 | []=>false
 | c::cs=>c.men id||Ck id cs
end
mutual
theorem L5 (id:AC): ∀ c:C,c.pure=true→c.men id=false
 | .osl _,h=>by simp [C.pure]at h
 | .ptr ..,h=>by simp [C.pure]at h
 | .bsl ..,h=>by simp [C.pure]at h
 | .bld ..,h=>by simp [C.pure]at h
 | .mref ..,h=>by simp [C.pure]at h
 | .mp ..,h=>by simp [C.pure]at h
 | .isl ..,_=>by simp [C.men]
 | .gptr ..,_=>by simp [C.men]
 | .clo _ cs,h=>by simp only [C.men];exact By id cs (by simpa only [C.pure] using h)
 | .bmv _ cs,h=>by simp only [C.men];exact By id cs (by simpa only [C.pure] using h)
 | .sl ..,_=>by simp [C.men]
 | .iptr ..,_=>by simp [C.men]
 | .int ..,_=>by simp [C.men]
 | .bool _,_=>by simp [C.men]
 | .str _,_=>by simp [C.men]
 | .nilp,_=>by simp [C.men]
 | .niface,_=>by simp [C.men]
 | .nils,_=>by simp [C.men]
 | .fn _,_=>by simp [C.men]
 | .held,_=>by simp [C.men]
 | .any,_=>by simp [C.men]
theorem By (id:AC): ∀ cs:List C,AH cs=true→Ck id cs=false
 | [],_=>by simp [Ck]
 | c::cs,h=>by
   simp only [AH,Bool.and_eq_true]at h
   simp [Ck,L5 id c h.1,By id cs h.2]
end
theorem CW: ∀ l:List C,AH l=l.all C.pure
 | []=>rfl
 | c::l=>by simp [AH,CW l]
theorem BP (l m:List C):AH (l++m)=(AH l&&AH m):=by simp [CW]
theorem NG {α:Type} (f:α→C) (h: ∀ x,(f x).pure =true) (l:List α):AH (l.map f)=true:=by simp [CW,h]
theorem Oq {α:Type} (f:α→List C) (h: ∀ x,AH (f x)=true): ∀ l:List α,AH (l.flatMap f)=true
 | []=>rfl
 | a::l=>by rw [List.flatMap_cons,BP,h,Oq f h l];rfl
theorem Kw {l:List C} (n:Nat) (h:AH l=true):AH (l.take n)=true:=by
 rw [CW,List.all_eq_true]at *
 exact fun x hx=>h x (List.mem_of_mem_take hx)
theorem Kx {l:List C} (n:Nat) (h:AH l=true):AH (l.drop n)=true:=by
 rw [CW,List.all_eq_true]at *
 exact fun x hx=>h x (List.mem_of_mem_drop hx)
theorem nV {l:List C} (n:Nat) (h:AH l=true):(l.getD n .any).pure =true:=by
 rw [List.getD_eq_getElem?_getD]
 cases hx:l[n]? with
 | none=>rfl
 | some x=>rw [CW,List.all_eq_true]at h;exact h x (List.mem_of_getElem? hx)
def LB (S:AC→Prop) (G G':Bj):Prop:= ∀ id,S id→G'.blk id=G.blk id∧G'.own id=G.own id
def DI (w w':World) (b:Nat):Prop:= ∀ cur T fz,w.heap[b]? =some (.cells cur T fz)→ ∃ cur' fz',w'.heap[b]? =some (.cells cur' T fz')
theorem DI.same {w w':World} {b:Nat} (h:w'.heap[b]? =w.heap[b]?):DI w w' b:=fun cur _ fz q=>⟨cur,fz,h.trans q⟩
structure EW (G G':Bj) (w w':World):Prop where
 size:w.heap.size≤w'.heap.size
 block: ∀ b,b<w.heap.size→ ¬G.wr b→w'.heap[b]? =w.heap[b]?
 wr: ∀ b,b<w.heap.size→G'.wr b→G.wr b
 ty: ∀ i b,G.blk i=some b→G'.blk i=some b→DI w w' b
mutual
theorem Ap.one {w:World} {G:Bj}: ∀ {c:C} {v:Value},Ap w G c v→v.oneCell'=true
 | .int ..,v,h=>by simp only [Ap]at h;subst h;rfl
 | .bool ..,v,h=>by simp only [Ap]at h;subst h;rfl
 | .str ..,v,h=>by simp only [Ap]at h;subst h;rfl
 | .sl ..,v,h=>by simp only [Ap]at h;obtain⟨_,a,cap,rfl,_⟩:=h;rfl
 | .osl _,v,h=>by simp only [Ap]at h;exact h.2
 | .ptr ..,v,h=>by simp only [Ap]at h;obtain⟨b,_,rfl⟩:=h;rfl
 | .bsl ..,v,h=>by simp only [Ap]at h;obtain⟨b,cap,_,rfl,_⟩:=h;rfl
 | .bld ..,v,h=>by simp only [Ap]at h;obtain⟨b,_,_,rfl | rfl⟩:=h<;>rfl
 | .iptr ..,v,h=>by simp only [Ap]at h;obtain⟨_,b,o,rfl,_⟩:=h;rfl
 | .nilp,v,h=>by simp only [Ap]at h;subst h;rfl
 | .niface,v,h=>by simp only [Ap]at h;subst h;rfl
 | .nils,v,h=>by simp only [Ap]at h;subst h;rfl
 | .fn _,v,h=>by simp only [Ap]at h;subst h;rfl
 | .clo ..,v,h=>by simp only [Ap]at h;obtain⟨arr,rfl,_⟩:=h;rfl
 | .bmv ..,v,h=>by simp only [Ap]at h;obtain⟨arr,rfl,_⟩:=h;rfl
 | .held,v,h=>by simp only [Ap]at h;obtain⟨t,x,rfl⟩:=h;rfl
 | .any,v,h=>by simp only [Ap]at h;exact h
 | .mref ..,v,h=>by simp only [Ap]at h;obtain⟨b,_,rfl⟩:=h;rfl
 | .mp ..,v,h=>by simp only [Ap]at h
 | .isl ..,v,h=>by simp only [Ap]at h;exact h
 | .gptr ..,v,h=>by simp only [Ap]at h;subst h;rfl
end
theorem cell?_of_block' {w w':World} {b:Nat} (h:w'.heap[b]? =w.heap[b]?) (o:Nat):w'.cell? ⟨b,o,none⟩=w.cell? ⟨b,o,none⟩:=
 World.cell?_of_block (a:=⟨b,o,none⟩) h
mutual
theorem Ap.mono {w w':World} {G G':Bj} (hk:EW G G' w w'): ∀ (c:C) (v:Value),LB (fun id=>c.men id=true) G G'→Ap w G c v→Ap w' G' c v
 | .int ..,_,_,h=>by simpa only [Ap] using h
 | .bool ..,_,_,h=>by simpa only [Ap] using h
 | .str ..,_,_,h=>by simpa only [Ap] using h
 | .sl len cs,v,ha,h=>by
   simp only [Ap]at h ⊢
   obtain⟨hp,a,cap,h1,h2,h3,h4,h5⟩:=h
   refine⟨hp,a,cap,h1,h2,h3,h4,?_⟩
   rcases h5 with h5 | ⟨b,off,e,hm,hb,hr⟩
   ·exact .inl h5
   ·exact .inr ⟨b,off,e,fun hm'=>hm (hk.wr b hb hm'),Nat.lt_of_lt_of_le hb hk.size,Au.mono hk cs b off (fun id hid=>absurd (show Ck id cs=true from hid) (by rw [By id cs hp];simp)) (fun o=>cell?_of_block' (hk.block b hb hm) o) hr⟩
 | .osl id,v,ha,h=>by
   simp only [Ap]at h ⊢
   rw [(ha id (by simp [C.men])).2];exact h
 | .ptr id off,v,ha,h=>by
   simp only [Ap]at h ⊢
   rw [(ha id (by simp [C.men])).1];exact h
 | .bsl id off len,v,ha,h=>by
   simp only [Ap]at h ⊢
   rw [(ha id (by simp [C.men])).1];exact h
 | .bld id T,v,ha,h=>by
   simp only [Ap]at h ⊢
   obtain⟨b,h1,⟨cur,fz,h2⟩,h3⟩:=h
   have h4:G'.blk id=some b:=by rw [(ha id (by simp [C.men])).1];exact h1
   exact⟨b,h4,hk.ty id b h1 h4 cur T fz h2,h3⟩
 | .iptr cs off,v,ha,h=>by
   simp only [Ap]at h ⊢
   obtain⟨hp,b,o,e,hm,hb,hr⟩:=h
   exact⟨hp,b,o,e,fun hm'=>hm (hk.wr b hb hm'),Nat.lt_of_lt_of_le hb hk.size,Au.mono hk cs b o (fun id hid=>absurd (show Ck id cs=true from hid) (by rw [By id cs hp];simp)) (fun o=>cell?_of_block' (hk.block b hb hm) o) hr⟩
 | .nilp,_,_,h=>by simpa only [Ap] using h
 | .niface,_,_,h=>by simpa only [Ap] using h
 | .nils,_,_,h=>by simpa only [Ap] using h
 | .fn _,_,_,h=>by simpa only [Ap] using h
 | .clo f cs,v,ha,h=>by
   simp only [Ap]at h ⊢
   obtain⟨arr,e,hr⟩:=h
   exact⟨arr,e,At.mono hk cs _ (fun id hid=>ha id (by simpa only [C.men] using hid)) hr⟩
 | .bmv f cs,v,ha,h=>by
   simp only [Ap]at h ⊢
   obtain⟨arr,e,hr⟩:=h
   exact⟨arr,e,At.mono hk cs _ (fun id hid=>ha id (by simpa only [C.men] using hid)) hr⟩
 | .held,_,_,h=>by simpa only [Ap] using h
 | .any,_,_,h=>by simpa only [Ap] using h
 | .mref id,v,ha,h=>by
   simp only [Ap]at h ⊢
   rw [(ha id (by simp [C.men])).1];exact h
 | .mp ..,_,_,h=>by simp only [Ap]at h
 | .isl ..,_,_,h=>by simpa only [Ap] using h
 | .gptr ..,_,_,h=>by simpa only [Ap] using h
theorem Au.mono {w w':World} {G G':Bj} (hk:EW G G' w w'): ∀ (cs:List C) (b off:Nat),LB (fun id=>Ck id cs=true) G G'→(∀ o,w'.cell? ⟨b,o,none⟩=w.cell? ⟨b,o,none⟩)→Au w G cs b off→Au w' G' cs b off
 | [],_,_,_,_,h=>by simp only [Au]
 | c::cs,b,off,ha,hc,h=>by
   simp only [Au]at h ⊢
   obtain⟨⟨v,hv,hr⟩,hrest⟩:=h
   exact⟨⟨v,by rw [hc];exact hv,Ap.mono hk c v (fun id hid=>ha id (by simp only [Ck,hid,Bool.true_or])) hr⟩,
    Au.mono hk cs b (off+1) (fun id hid=>ha id (by simp only [Ck,hid,Bool.or_true])) hc hrest⟩
theorem At.mono {w w':World} {G G':Bj} (hk:EW G G' w w'): ∀ (cs:List C) (vs:List Value),LB (fun id=>Ck id cs=true) G G'→At w G cs vs→At w' G' cs vs
 | [],[],_,_=>by simp only [At]
 | [],_::_,_,h=>by simp only [At]at h
 | _::_,[],_,h=>by simp only [At]at h
 | c::cs,v::vs,ha,h=>by
   simp only [At]at h ⊢
   exact⟨Ap.mono hk c v (fun id hid=>ha id (by simp only [Ck,hid,Bool.true_or])) h.1,
    At.mono hk cs vs (fun id hid=>ha id (by simp only [Ck,hid,Bool.or_true])) h.2⟩
end
mutual
def V.men (id:AC):V→Bool
 | .c x=>x.men id
 | .agg cs=>Ck id cs
 | .tup vs=>Jk id vs
 | .g b v=>v.men id&&b
 | .undef =>false
def Jk (id:AC):List V→Bool
 | []=>false
 | v::vs=>v.men id||Jk id vs
end
mutual
theorem Ak.mono {w w':World} {G G':Bj} (hk:EW G G' w w'): ∀ (x:V) (v:Value),LB (fun id=>x.men id=true) G G'→Ak w G x v→Ak w' G' x v
 | .c x,v,ha,h=>by simp only [Ak]at h ⊢;exact Ap.mono hk x v (by simpa only [V.men] using ha) h
 | .agg cs,v,ha,h=>by
   simp only [Ak]at h ⊢
   obtain⟨arr,e,hr⟩:=h
   exact⟨arr,e,At.mono hk cs _ (by simpa only [V.men] using ha) hr⟩
 | .tup vs,v,ha,h=>by
   simp only [Ak]at h ⊢
   obtain⟨arr,e,hr⟩:=h
   exact⟨arr,e,AJ.mono hk vs _ (by simpa only [V.men] using ha) hr⟩
 | .g b x,v,ha,h=>by
   simp only [Ak]at h ⊢
   split
   ·rename_i hb;rw [if_pos hb]at h;exact Ak.mono hk x v (fun id hid=>ha id (by simp only [V.men,hb,hid,Bool.and_self])) h
   ·rename_i hb;rw [if_neg hb]at h;exact h
 | .undef,_,_,_=>by simp only [Ak]
theorem AJ.mono {w w':World} {G G':Bj} (hk:EW G G' w w'): ∀ (xs:List V) (vs:List Value),LB (fun id=>Jk id xs=true) G G'→AJ w G xs vs→AJ w' G' xs vs
 | [],_,_,h=>by simpa only [AJ] using h
 | x::xs,vs,ha,h=>by
   simp only [AJ]at h ⊢
   obtain⟨v,r,e,h1,h2⟩:=h
   exact⟨v,r,e,Ak.mono hk x v (fun id hid=>ha id (by simp only [Jk,hid,Bool.true_or])) h1,
    AJ.mono hk xs r (fun id hid=>ha id (by simp only [Jk,hid,Bool.or_true])) h2⟩
end
theorem At.length {w:World} {G:Bj}: ∀ {cs:List C} {vs:List Value},At w G cs vs→cs.length=vs.length
 | [],[],_=>rfl
 | [],_::_,h=>by simp only [At]at h
 | _::_,[],h=>by simp only [At]at h
 | c::cs,v::vs,h=>by
   simp only [At]at h
   simp [At.length h.2]
theorem At.get {w:World} {G:Bj}: ∀ {cs:List C} {vs:List Value},At w G cs vs→ ∀ (i:Nat) (c:C),cs[i]? =some c→ ∃ v,vs[i]? =some v∧Ap w G c v
 | [],[],_,i,c,hc=>by simp at hc
 | [],_::_,h,_,_,_=>by simp only [At]at h
 | _::_,[],h,_,_,_=>by simp only [At]at h
 | c::cs,v::vs,h,i,d,hd=>by
   simp only [At]at h
   cases i with
   | zero=>simp at hd;subst hd;exact⟨v,by simp,h.1⟩
   | succ i=>simp at hd;obtain⟨v',h1,h2⟩:=At.get h.2 i d hd;exact⟨v',by simpa using h1,h2⟩
theorem At.one {w:World} {G:Bj}: ∀ {cs:List C} {vs:List Value},At w G cs vs→ ∀ v∈vs,v.oneCell'=true
 | [],[],_,v,hv=>by cases hv
 | [],_::_,h,_,_=>by simp only [At]at h
 | _::_,[],h,_,_=>by simp only [At]at h
 | c::cs,v::vs,h,u,hu=>by
   simp only [At]at h
   rcases List.mem_cons.1 hu with rfl | hu
   ·exact Ap.one h.1
   ·exact At.one h.2 u hu
theorem At.drop {w:World} {G:Bj}: ∀ {cs:List C} {vs:List Value},At w G cs vs→ ∀ n,At w G (cs.drop n) (vs.drop n)
 | cs,vs,h,0=>by simpa using h
 | [],[],h,n+1=>by simp [At]
 | [],_::_,h,_+1=>by simp only [At]at h
 | _::_,[],h,_+1=>by simp only [At]at h
 | c::cs,v::vs,h,n+1=>by simp only [At]at h;simpa using At.drop h.2 n
theorem At.take {w:World} {G:Bj}: ∀ {cs:List C} {vs:List Value},At w G cs vs→ ∀ n,At w G (cs.take n) (vs.take n)
 | cs,vs,h,0=>by simp [At]
 | [],[],h,n+1=>by simp [At]
 | [],_::_,h,_+1=>by simp only [At]at h
 | _::_,[],h,_+1=>by simp only [At]at h
 | c::cs,v::vs,h,n+1=>by
   simp only [At]at h
   simp only [List.take_succ_cons,At]
   exact⟨h.1,At.take h.2 n⟩
theorem At.append {w:World} {G:Bj}: ∀ {cs:List C} {vs:List Value} {ds:List C} {us:List Value},At w G cs vs→At w G ds us→At w G (cs++ds) (vs++us)
 | [],[],_,_,_,h'=>by simpa using h'
 | [],_::_,_,_,h,_=>by simp only [At]at h
 | _::_,[],_,_,h,_=>by simp only [At]at h
 | c::cs,v::vs,ds,us,h,h'=>by
   simp only [At]at h
   simp only [List.cons_append,At]
   exact⟨h.1,At.append h.2 h'⟩
theorem Au.list {w:World} {G:Bj}: ∀ {cs:List C} {b off:Nat},Au w G cs b off→ ∃ vs,At w G cs vs∧w.rangeAt b off vs
 | [],b,off,_=>⟨[],by simp only [At],fun j v h=>by simp at h⟩
 | c::cs,b,off,h=>by
   simp only [Au]at h
   obtain⟨⟨v,hv,hr⟩,hrest⟩:=h
   obtain⟨vs,h1,h2⟩:=Au.list hrest
   refine⟨v::vs,by simp only [At];exact⟨hr,h1⟩,fun j u hu=>?_⟩
   cases j with
   | zero=>simp at hu;subst hu;simpa using hv
   | succ j=>simp at hu;have:=h2 j u hu;rw [show off+(j+1)=off+1+j by omega];exact this
theorem Au.of_list {w:World} {G:Bj}: ∀ {cs:List C} {vs:List Value} {b off:Nat},At w G cs vs→w.rangeAt b off vs→Au w G cs b off
 | [],[],b,off,_,_=>by simp only [Au]
 | [],_::_,_,_,h,_=>by simp only [At]at h
 | _::_,[],_,_,h,_=>by simp only [At]at h
 | c::cs,v::vs,b,off,h,hr=>by
   simp only [At]at h
   simp only [Au]
   refine⟨⟨v,by simpa using hr 0 v (by simp),h.1⟩,Au.of_list h.2 (fun j u hu=>?_)⟩
   have:=hr (j+1) u (by simpa using hu)
   rw [show off+1+j=off+(j+1) by omega];exact this
theorem Au.drop {w:World} {G:Bj} {cs:List C} {b off:Nat} (h:Au w G cs b off) (n:Nat):Au w G (cs.drop n) b (off+n):=by
 obtain⟨vs,h1,h2⟩:=h.list
 refine Au.of_list (h1.drop n) (fun j v hv=>?_)
 rw [List.getElem?_drop]at hv
 have:=h2 _ v hv
 rw [show off+n+j=off+(n+j) by omega];exact this
theorem Au.take {w:World} {G:Bj} {cs:List C} {b off:Nat} (h:Au w G cs b off) (n:Nat):Au w G (cs.take n) b off:=by
 obtain⟨vs,h1,h2⟩:=h.list
 refine Au.of_list (h1.take n) (fun j v hv=>?_)
 rw [List.getElem?_take]at hv
 split at hv
 ·exact h2 j v hv
 ·cases hv
end Go.PL
namespace Go.PL
open Go Go.RowKit
structure AM where
 id:AC
 row:Option (TypeId×Nat×Nat)
 cs:List C
 pu:Bool:=false
structure St where
 tm:List V
 so:List AM
 gh:List V:=[]
 pre:AC:=[]
structure Fr where
 w0:World
 av:Nat→Prop
 old:Nat→Prop
 I:World→Prop
 gv:List Value:=[]
def xr (kv:List (Int×Int)) (es:List MapEntry):Prop:=
 es=kv.zipIdx.map fun p=>⟨.int .i64 p.1.1, .int .i64 p.1.2,p.2⟩
def pU (w:World) (G:Bj) (cs:List C) (b:Nat):Prop:=
 (∃ kv es,cs=[.mp kv]∧w.heap[b]? =some (.map es kv.length)∧xr kv es.toList∧(kv.map (·.1)).Nodup)∨
 (∃ T cur,w.heap[b]? =some (.cells cur T (0,0))∧cur.size=cs.length∧Au w G cs b 0)
def bO:List C→Bool
 | [.mp _]=>true
 | _=>false
theorem pU.cells {w:World} {G:Bj} {cs:List C} {b:Nat} (h:pU w G cs b) (hn:bO cs=false): ∃ T cur,w.heap[b]? =some (.cells cur T (0,0))∧cur.size=cs.length∧Au w G cs b 0:=by
 rcases h with ⟨kv,es,rfl,_⟩ | h
 ·cases hn
 ·exact h
def BQ (w:World) (G:Bj) (e:AM):Prop:=
 match e.row with
 | none=> ∃ b,G.blk e.id=some b∧pU w G e.cs b
 | some (E,n,len)=>e.cs.length=len*n∧ ∃ v,G.own e.id=some v∧
  ((∃ p,v= .slice p 0 0∧len=0∧G.blk e.id=none)∨
   ∃ b cap cur,v= .slice (some ⟨b,0,none⟩) len cap∧G.blk e.id=some b∧w.heap[b]? =some (.cells cur E (0,0))∧len≤cap∧cap≤maxLen∧cur.size=cap*n∧Au w G e.cs b 0)
def EX:AC→Bool
 | []=>false
 | d::_=>Nat.beq d 1000007
def JM:AC→Bool
 | []=>false
 | d::_=>Nat.beq d 1000003
def Cw (k:Nat) (id:AC):AC:=1000007::k::id
theorem VC {k j:Nat} {a b:AC} (h:Cw k a=Cw j b):k=j∧a=b:=by
 unfold Cw at h
 injection h with _ h
 injection h with h1 h2
 exact⟨h1,h2⟩
theorem pV (k:Nat) (id:AC):EX (Cw k id)=true:=rfl
def EY (w:World) (G:Bj) (e:AM):Prop:=
 ∀ k E n len cs,e.cs[k]? =some (.isl E n len cs)→AH cs=true∧BQ w G ⟨Cw k e.id,some (E,n,len),cs,true⟩∧
   ∃ b v,G.blk e.id=some b∧w.cell? ⟨b,k,none⟩=some v∧G.own (Cw k e.id)=some v
def BX (w:World) (G:Bj) (e:AM):Prop:=EX e.id=false∧(JM e.id=true→e.pu=true∧e.row.isSome=true∧EY w G e)
structure R (F:Fr) (st:St) (a:Act) (w:World) (G:Bj):Prop where
 dfr:a.defers=[]
 size:a.tmps.size=st.tm.length
 slots: ∀ i,Ak w G (st.tm.getD i .undef) (a.tmps.getD i Go.undef)
 ghosts:AJ w G st.gh F.gv
 store: ∀ e∈st.so,BQ w G e
 deep: ∀ e∈st.so,BX w G e
 pures: ∀ e∈st.so,e.pu=true→AH e.cs=true
 nodup:(st.so.map (·.id)).Nodup
 inj: ∀ i j b,G.blk i=some b→G.blk j=some b→i=j
 lt: ∀ i b,G.blk i=some b→b<w.heap.size
 new: ∀ i b,G.blk i=some b→F.w0.heap.size≤b∨F.old b
 wr: ∀ b,G.wr b↔F.av b∨ ∃ i,G.blk i=some b
 avlt: ∀ b,F.av b→b<F.w0.heap.size
 inv: ∀ w',F.w0.heap.size≤w'.heap.size→(∀ b,b<F.w0.heap.size→ ¬F.old b→w'.heap[b]? =F.w0.heap[b]?)→F.I w'
 avold: ∀ b,F.old b→ ¬F.av b
 os:w.os=F.w0.os
 tape:w.tape=F.w0.tape
 output:w.output=F.w0.output
 hsize:F.w0.heap.size≤w.heap.size
 ext: ∀ b,b<F.w0.heap.size→ ¬F.old b→w.heap[b]? =F.w0.heap[b]?
def St.get (st:St) (t:Nat):V:=st.tm.getD t .undef
def St.put (st:St) (d:Option Nat) (v:V):St:=
 match d with
 | some d=>{st with tm:=st.tm.set d v}
 | none=>st
def GM:Value→Option C
 | .int k n=>some (.int k n)
 | .bool b=>some (.bool b)
 | .string s=>some (.str s.data.toList)
 | .pointer none=>some .nilp
 | .nilIface =>some .niface
 | .slice none 0 0=>some (.sl 0 [])
 | .map none=>some .any
 | _=>none
def Em:List Value→Option (List C)
 | []=>some []
 | v::vs=>match GM v,Em vs with
   | some c,some cs=>some (c::cs)
   | _,_=>none
def Ky:Value→V
 | .agg cs=>match Em cs.toList with
   | some l=> .agg l
   | none=> .undef
 | v=>match GM v with
   | some c=> .c c
   | none=> .undef
def St.ev (st:St):Operand→V
 | .tmp t=>st.get t
 | .const v=>Ky v
 | .func f=> .c (.fn f)
 | .global _=> .undef
def St.arg (st:St) (g:Bool) (x:Operand):Prop×V:=
 match st.ev x with
 | .g c v=>(g=true→c=true,v)
 | v=>(True,v)
theorem O0 {w:World} {G:Bj}: ∀ {v:Value} {c:C},GM v=some c→Ap w G c v:=by
 intro v c h
 unfold GM at h
 split at h<;>first | (cases h;done) | (injection h with h;subst h;simp [Ap];try rfl)
 ·exact⟨rfl,none,0,⟨rfl,rfl⟩,by simp [maxLen]⟩
theorem Kz {w:World} {G:Bj}: ∀ {vs:List Value} {cs:List C},Em vs=some cs→At w G cs vs
 | [],cs,h=>by simp [Em]at h;subst h;simp [At]
 | v::vs,cs,h=>by
   unfold Em at h
   split at h
   ·rename_i c cs' h1 h2
    injection h with h;subst h
    simp only [At]
    exact⟨O0 h1,Kz h2⟩
   ·cases h
theorem bP {w:World} {G:Bj} (v:Value):Ak w G (Ky v) v:=by
 unfold Ky
 split
 ·split
  ·rename_i h;simp only [Ak];exact⟨_,rfl,Kz h⟩
  ·simp only [Ak]
 ·split
  ·rename_i h;simp only [Ak];exact O0 h
  ·simp only [Ak]
theorem R.ev {F:Fr} {st:St} {a:Act} {w:World} {G:Bj} (h:R F st a w G) (x:Operand):Ak w G (st.ev x) (a.eval x):=by
 cases x with
 | tmp t=>exact h.slots t
 | const v=>exact bP v
 | func f=>simp [St.ev,Act.eval,Ak,Ap]
 | global g=>simp [St.ev,Ak]
theorem R.arg {F:Fr} {st:St} {a:Act} {w:World} {G:Bj} (h:R F st a w G) {g:Bool} (hg:g=true) {x:Operand} (hs:(st.arg g x).1):Ak w G (st.arg g x).2 (a.eval x):=by
 have:=h.ev x
 unfold St.arg at *
 split at hs
 ·rename_i c v he
  rw [he]at this
  simp only [Ak]at this
  rw [if_pos (hs hg)]at this
  simpa [he] using this
 ·exact this
def Or (P:Program) (t:TypeId):Option (Bool×Nat):=
 match P.underlying t,P.info? t with
 | some d,some i=>some (d.isRow,i.size)
 | _,_=>none
def Eo (P:Program) (t:TypeId):Option (TypeId×Nat):=
 match P.underlying t with
 | some (.slice e)=>match P.info? e with
   | some i=>some (e,i.size)
   | none=>none
 | _=>none
def Gf (P:Program) (t:TypeId):Option (Nat×TypeId×Nat):=
 match P.underlying t with
 | some (.array n e)=>match P.info? e with
   | some i=>some (n,e,i.size)
   | none=>none
 | _=>none
def pW (P:Program) (t:TypeId) (f:Nat):Option (Nat×Bool×Nat):=
 match P.underlying t with
 | some (.struct fs)=>match fs[f]? with
   | some x=>match Or P x.type with
     | some (ag,n)=>some (x.offset,ag,n)
     | none=>none
   | none=>none
 | _=>none
def EK (P:Program) (t:TypeId):Bool:=
 match P.underlying t with
 | some .string =>true
 | _=>false
theorem Ep {P:Program} {t:TypeId} {ag:Bool} {n:Nat} (h:Or P t=some (ag,n)): ∃ d i,P.underlying t=some d∧d.isRow=ag∧P.info? t=some i∧i.size=n:=by
 unfold Or at h
 split at h
 ·rename_i d i h1 h2;simp only [Option.some.injEq,Prod.mk.injEq]at h;exact⟨d,i,h1,h.1,h2,h.2⟩
 ·cases h
theorem O1 {P:Program} {t e:TypeId} {n:Nat} (h:Eo P t=some (e,n)):P.underlying t=some (.slice e)∧ ∃ i,P.info? e=some i∧i.size=n:=by
 unfold Eo at h
 split at h
 ·rename_i d h1
  split at h
  ·rename_i i h2;simp only [Option.some.injEq,Prod.mk.injEq]at h;obtain⟨rfl,h⟩:=h;exact⟨h1,i,h2,h⟩
  ·cases h
 ·cases h
theorem KA {P:Program} {t e:TypeId} {k n:Nat} (h:Gf P t=some (k,e,n)):P.underlying t=some (.array k e)∧ ∃ i,P.info? e=some i∧i.size=n:=by
 unfold Gf at h
 split at h
 ·rename_i m d h1
  split at h
  ·rename_i i h2;simp only [Option.some.injEq,Prod.mk.injEq]at h;obtain⟨rfl,rfl,h⟩:=h;exact⟨h1,i,h2,h⟩
  ·cases h
 ·cases h
structure Fy (w w':World):Prop where
 size:w.heap.size≤w'.heap.size
 block: ∀ b,b<w.heap.size→w'.heap[b]? =w.heap[b]?
theorem Fy.refl (w:World):Fy w w:=⟨Nat.le_refl _,fun _ _=>rfl⟩
theorem Fy.trans {a b c:World} (h:Fy a b) (k:Fy b c):Fy a c:=
 ⟨Nat.le_trans h.size k.size,fun x hx=>(k.block x (Nat.lt_of_lt_of_le hx h.size)).trans (h.block x hx)⟩
theorem Fy.cell {w w':World} (h:Fy w w') {p:Addr} {v:Value} (hv:w.cell? p=some v):w'.cell? p=some v:=by
 have hb:p.block<w.heap.size:=World.block_lt_of_cell? w p hv
 rw [World.cell?_of_block (h.block p.block hb)];exact hv
theorem Fy.range {w w':World} (h:Fy w w') {b o:Nat} {vs:List Value} (hv:w.rangeAt b o vs):w'.rangeAt b o vs:=
 fun j v hj=>h.cell (hv j v hj)
def AM.isM (e:AM):Bool:=match e.row with
 | none=>bO e.cs
 | some _=>false
def St.look (st:St) (id:AC):Option AM:=st.so.find? (fun e=>e.id==id&& !(e.isM||JM e.id))
def St.lookR (st:St) (id:AC):Option AM:=st.so.find? (fun e=>e.id==id&& !e.isM)
theorem RU {st:St} {id:AC} {e:AM} (h:st.lookR id=some e):e∈st.so∧e.id=id:=
 ⟨List.mem_of_find?_eq_some h,by have:=List.find?_some h;simp only [Bool.and_eq_true,beq_iff_eq]at this;exact this.1⟩
theorem pX {st:St} {id:AC} {e:AM} (h:st.lookR id=some e) (hr:e.row=none):bO e.cs=false:=by
 have:=List.find?_some h;simp only [Bool.and_eq_true,Bool.not_eq_true']at this
 have h2:=this.2
 unfold AM.isM at h2
 rw [hr]at h2;exact h2
theorem B6 {st:St} {id:AC} {e:AM} (h:st.look id=some e):e∈st.so∧e.id=id:=
 ⟨List.mem_of_find?_eq_some h,by have:=List.find?_some h;simp only [Bool.and_eq_true,beq_iff_eq]at this;exact this.1⟩
theorem VD {st:St} {id:AC} {e:AM} (h:st.look id=some e) (hr:e.row=none):bO e.cs=false:=by
 have:=List.find?_some h;simp only [Bool.and_eq_true,Bool.not_eq_true',Bool.or_eq_false_iff]at this
 have h2:=this.2.1
 unfold AM.isM at h2
 rw [hr]at h2;exact h2
theorem PS {st:St} {id:AC} {e:AM} (h:st.look id=some e):JM id=false:=by
 have h1:=(B6 h).2
 have:=List.find?_some h;simp only [Bool.and_eq_true,Bool.not_eq_true',Bool.or_eq_false_iff]at this
 rw [←h1];exact this.2.2
theorem BQ.row {w:World} {G:Bj} {e:AM} (h:BQ w G e) (hnm:e.row=none→bO e.cs=false) {b:Nat} (hb:G.blk e.id=some b):
 ∃ cur T,w.heap[b]? =some (.cells cur T (0,0))∧e.cs.length≤cur.size∧Au w G e.cs b 0:=by
 unfold BQ at h
 split at h
 ·rename_i hrn
  obtain⟨b',h1,hbx⟩:=h
  obtain⟨T,cur,h2,h3,h4⟩:=hbx.cells (hnm hrn)
  rw [hb]at h1;injection h1 with h1;subst h1
  exact⟨cur,T,h2,by omega,h4⟩
 ·obtain⟨hl,v,h1,h2 | ⟨b',cap,cur,e1,e2,e3,e4,e5,e6,e7⟩⟩:=h
  ·obtain⟨p,_,_,h2⟩:=h2;rw [h2]at hb;cases hb
  ·rw [hb]at e2;injection e2 with e2;subst e2
   exact⟨cur,_,e3,by rw [hl,e6];exact Nat.mul_le_mul_right _ e4,e7⟩
def toV (ag:Bool) (off n:Nat) (cs:List C):V:=if ag then .agg ((cs.drop off).take n)else .c (cs.getD off .any)
def Er (P:Program) (t:TypeId) (st:St):V→Prop×V
 | .c (.ptr id off)=>match Or P t,st.lookR id with
   | some (ag,n),some e=>(off+n≤e.cs.length∧(ag=true∨0<n),toV ag off n e.cs)
   | _,_=>(False, .undef)
 | .c (.iptr cs off)=>match Or P t with
   | some (ag,n)=>(off+n≤cs.length∧(ag=true∨0<n),toV ag off n cs)
   | _=>(False, .undef)
 | _=>(False, .undef)
theorem Jl {P:Program} {w:World} {b o:Nat} {ty:TypeId} {v:Value} {d:TypeDesc} (hu:P.underlying ty=some d) (hd:d.isRow=false) (hc:w.cell? ⟨b,o,none⟩=some v):
 (Instr.loadAt ty (.pointer (some ⟨b,o,none⟩))).run P w= .ok v w:=by
 have hagg:(isAgg ty).run P w= .ok false w:=by
  unfold isAgg
  rw [Sem.run_bind,run_underlying hu w]
  cases d<;>simp_all
 simp [Instr.loadAt,Instr.sureAddr,loadVar,Sem.run_bind,hagg,load,Sem.run,hc]
theorem VZ {P:Program} {w:World} {G:Bj} {cs:List C} {b o off n:Nat} {ty:TypeId} {ag:Bool} (hr:Au w G cs b o) (ht:Or P ty=some (ag,n)) (hn:off+n≤cs.length) (h0:ag=true∨0<n):
 ∃ v,Ak w G (toV ag off n cs) v∧ ∀ w',Fy w w'→(Instr.loadAt ty (.pointer (some ⟨b,o+off,none⟩))).run P w'= .ok v w':=by
 obtain⟨d,i,hu,hd,hi,hsz⟩:=Ep ht
 obtain⟨vs,h1,h2⟩:=hr.list
 unfold toV
 cases hag:ag with
 | true=>
   refine⟨.agg ((vs.drop off).take n).toArray,?_,fun w' hw'=>?_⟩
   ·exact⟨_,rfl,by simpa using (h1.drop off).take n⟩
   ·refine run_loadAt_mid w' b (o+off) ty ((vs.drop off).take n) d ?_ hu (by rw [hd,hag]) ?_
    ·intro j v hv
     rw [List.getElem?_take]at hv
     split at hv
     ·rw [List.getElem?_drop]at hv
      have:=(hw'.range h2) _ v hv
      rw [show o+off+j=o+(off+j) by omega];exact this
     ·cases hv
    ·simp [hi,hsz, ←h1.length];omega
 | false=>
   have hn0:0<n:=by rcases h0 with h | h; · rw [hag]at h;cases h
                    ·exact h
   have hlt:off<cs.length:=by omega
   obtain⟨v,hv,hr'⟩:=h1.get off cs[off] (by simp [hlt])
   refine⟨v,?_,fun w' hw'=>?_⟩
   ·simpa [Ak,List.getD_eq_getElem?_getD,hlt] using hr'
   ·exact Jl hu (by rw [hd,hag]) (by simpa using (hw'.range h2) off v hv)
theorem L6 {P:Program} {F:Fr} {st:St} {a:Act} {w:World} {G:Bj} (h:R F st a w G) {t:TypeId} {x:V} {u:Value} (hx:Ak w G x u) (hs:(Er P t st x).1):
 ∃ v,Ak w G (Er P t st x).2 v∧ ∀ w',Fy w w'→(Instr.loadAt t u).run P w'= .ok v w':=by
 unfold Er at *
 split at hs
 ·rename_i id off
  split at hs
  ·rename_i ag n e ht he
   simp only [Ak,Ap]at hx
   obtain⟨b,hb,rfl⟩:=hx
   obtain⟨hm,hid⟩:=RU he
   obtain⟨cur,T,_,_,hrow⟩:=(h.store e hm).row (pX he) (by rw [hid];exact hb)
   have:=VZ (P:=P) hrow ht hs.1 hs.2
   simpa using this
  ·exact hs.elim
 ·rename_i cs off
  split at hs
  ·rename_i ag n ht
   simp only [Ak,Ap]at hx
   obtain⟨_,b,o,rfl,_,_,hrow⟩:=hx
   exact VZ (P:=P) hrow ht hs.1 hs.2
  ·exact hs.elim
 ·exact hs.elim
end Go.PL
namespace Go.PL
open Go Go.RowKit
def RV (P:Program) (t:TypeId):Bool:=
 match P.underlying t with
 | some .bool =>true
 | _=>false
def eN (k:IntKind) (a b:Int):Int:=k.wrap (BitVec.ofInt k.bits a&&& BitVec.ofInt k.bits b).toNat
def eO (k:IntKind) (a b:Int):Int:=k.wrap (BitVec.ofInt k.bits a||| BitVec.ofInt k.bits b).toNat
def jx (k:IntKind) (a b:Int):Int:=k.wrap (BitVec.ofInt k.bits a ^^^ BitVec.ofInt k.bits b).toNat
def VE (k:IntKind) (a b:Int):Int:=k.wrap (BitVec.ofInt k.bits a&&& ~~~ BitVec.ofInt k.bits b).toNat
def IF (op:BinOp) (k:IntKind) (a b:Int):Prop×C:=
 match op with
 | .add =>(True, .int k (k.wrap (a+b)))
 | .sub =>(True, .int k (k.wrap (a - b)))
 | .mul =>(True, .int k (k.wrap (a*b)))
 | .quo =>(b ≠ 0, .int k (k.wrap (a.tdiv b)))
 | .rem =>(b ≠ 0, .int k (a.tmod b))
 | .and =>(True, .int k (eN k a b))
 | .or =>(True, .int k (eO k a b))
 | .xor =>(True, .int k (jx k a b))
 | .andNot =>(True, .int k (VE k a b))
 | .shl =>(0≤b, .int k (k.wrap (a*2 ^ (min b.toNat k.bits))))
 | .shr =>(0≤b, .int k (a.fdiv (2 ^ (min b.toNat k.bits))))
 | .eql =>(True, .bool (a==b))
 | .neq =>(True, .bool (a != b))
 | .lss =>(True, .bool (decide (a<b)))
 | .leq =>(True, .bool (decide (a≤b)))
 | .gtr =>(True, .bool (decide (b<a)))
 | .geq =>(True, .bool (decide (b≤a)))
def JN (op:BinOp) (a b:List UInt8):Prop×C:=
 match op with
 | .add =>(a.length+b.length≤maxLen, .str (a++b))
 | .eql =>(True, .bool (a==b))
 | .neq =>(True, .bool (a != b))
 | .lss =>(True, .bool (Op.bytesLess a b))
 | .leq =>(True, .bool (Op.bytesLess a b||a==b))
 | .gtr =>(True, .bool (!(Op.bytesLess a b||a==b)))
 | .geq =>(True, .bool (!Op.bytesLess a b))
 | _=>(False, .any)
def JO (op:BinOp) (k k':IntKind):Prop:=
 match op with
 | .shl | .shr =>True
 | _=>k=k'
def IG (P:Program) (t:TypeId):Bool:=
 match P.underlying t with
 | some (.interface _)=>true
 | _=>false
def TS (P:Program) (t:TypeId):Bool:=
 match P.underlying t with
 | some (.pointer _)=>true
 | _=>false
def Ot (op:BinOp) (b:Bool) (s:Prop):Prop×V:=
 match op with
 | .eql =>(s, .c (.bool b))
 | .neq =>(s, .c (.bool !b))
 | _=>(False, .undef)
def BR:Operand→Bool
 | .const _=>true
 | _=>false
def U3 (P:Program) (op:BinOp) (t:TypeId) (k:Bool):V→V→Prop×V
 | .c (.int k a), .c (.int k' b)=>(JO op k k'∧(IF op k a b).1, .c (IF op k a b).2)
 | .c (.str a), .c (.str b)=>((JN op a b).1, .c (JN op a b).2)
 | .c (.bool a), .c (.bool b)=>match op with
   | .eql =>(RV P t=true, .c (.bool (a==b)))
   | .neq =>(RV P t=true, .c (.bool (a != b)))
   | _=>(False, .undef)
 | .c .niface, .c .niface =>Ot op true (k=true∧IG P t=true)
 | .c .held, .c .niface =>Ot op false (IG P t=true)
 | .c (.ptr _ _), .c .nilp =>Ot op false (TS P t=true)
 | .c .nilp, .c .nilp =>Ot op true (TS P t=true)
 | _,_=>(False, .undef)
theorem PT {P:Program} {t:TypeId} (h:IG P t=true): ∃ ms,P.underlying t=some (.interface ms):=by
 unfold IG at h;split at h
 ·rename_i ms hm;exact⟨ms,hm⟩
 ·cases h
theorem V0 {P:Program} {t:TypeId} (h:TS P t=true): ∃ e,P.underlying t=some (.pointer e):=by
 unfold TS at h;split at h
 ·rename_i ms hm;exact⟨ms,hm⟩
 ·cases h
theorem TT {P:Program} {t:TypeId} (h:RV P t=true):P.underlying t=some .bool :=by
 unfold RV at h;split at h<;>simp_all
theorem FD {P:Program} {t:TypeId} (h:EK P t=true):P.underlying t=some .string :=by
 unfold EK at h;split at h<;>simp_all
theorem jy (a:List UInt8):(⟨a.toArray⟩:ByteArray).size =a.length:=by simp [ByteArray.size]
def Hz:C→Value
 | .int k n=> .int k n
 | .bool b=> .bool b
 | .str s=> .string ⟨s.toArray⟩
 | .nilp => .pointer none
 | .niface => .nilIface
 | .fn f=> .func (.func f) #[] #[]
 | _=>Go.undef
def C.flat:C→Bool
 | .int .. | .bool _ | .str _ | .nilp | .niface | .fn _=>true
 | _=>false
theorem Bm {w:World} {G:Bj} {c:C} (hc:c.flat=true) {v:Value}:Ap w G c v↔v=Hz c:=by
 cases c<;>simp_all [C.flat,Ap,Hz]
theorem ZE {P:Program} {op:BinOp} {t:TypeId} {k k':IntKind} {x y:Int} {ox oy:Operand} (h1:JO op k k') (h2:(IF op k x y).1) (w:World):
 (do eqGuard op t ox oy (.int k x) (.int k' y);binOp op t (.int k x) (.int k' y)).run P w= .ok (Hz (IF op k x y).2) w∧(IF op k x y).2.flat =true:=by
 refine⟨?_,by cases op<;>rfl⟩
 cases op<;>simp only [JO,IF]at h1 h2<;>(try subst h1)<;>simp only [IF,Hz]<;>
  first
   | (simp [eqGuard,binOp,Op.intArith,Op.intDiv,Op.intBits,Op.intCmp,h2,eN,eO,jx,VE];done)
   | (have h3: ¬y<0:=by omega
      simp [eqGuard,binOp,Op.shift,h3])
theorem ZF {P:Program} {op:BinOp} {t:TypeId} {x y:List UInt8} {ox oy:Operand} (h2:(JN op x y).1) (w:World):
 (do eqGuard op t ox oy (.string ⟨x.toArray⟩) (.string ⟨y.toArray⟩);binOp op t (.string ⟨x.toArray⟩) (.string ⟨y.toArray⟩)).run P w= .ok (Hz (JN op x y).2) w∧(JN op x y).2.flat =true:=by
 cases op<;>simp only [JN]at h2<;>refine⟨?_,rfl⟩<;>simp only [JN,Hz]
 case add=>
  have h3: ¬((x.length+y.length:Nat):Int)>IntKind.i64.max:=by
   have:IntKind.i64.max=9223372036854775807:=by decide
   unfold maxLen at h2;omega
  simp only [eqGuard,binOp,Op.stringOp,jy]
  rw [if_neg h3]
  have e:(⟨x.toArray⟩++⟨y.toArray⟩:ByteArray)=⟨(x++y).toArray⟩:=by
   apply ByteArray.ext
   simp
  simp [e]
 case neq=>simp [eqGuard,binOp,Op.stringOp,ByteArray.toList_eq,bne]
 all_goals simp [eqGuard,binOp,Op.stringOp,ByteArray.toList_eq]
theorem IH {P:Program} {op:BinOp} {t:TypeId} {u v:Value} {b:Bool} {s:Prop} {w:World} {G:Bj} {ox oy:Operand} (hs:(Ot op b s).1) (hshape:(∀ k a,u ≠ .int k a)∧(∀ k a,u ≠ .float k a)∧(∀ k a c,u ≠ .complex k a c)∧(∀ a,u ≠ .string a))
 (hg:s→ ∀ w',(eqGuard op t ox oy u v).run P w'= .ok () w') (he:s→ ∀ w',(Op.equal t u v).run P w'= .ok b w'):
 ∃ r,Ak w G (Ot op b s).2 r∧ ∀ w',(do eqGuard op t ox oy u v;binOp op t u v).run P w'= .ok r w':=by
 unfold Ot at *
 obtain⟨h1,h2,h3,h4⟩:=hshape
 split at hs
 ·refine⟨.bool b,(Bm rfl).2 rfl,fun w'=>?_⟩
  simp only [Sem.run_bind,hg hs w',Result.andThen_ok]
  cases u<;>simp_all [binOp]
 ·refine⟨.bool !b,(Bm rfl).2 rfl,fun w'=>?_⟩
  simp only [Sem.run_bind,hg hs w',Result.andThen_ok]
  cases u<;>simp_all [binOp]
 ·exact hs.elim
theorem nW {P:Program} (d:Nat) {t u:TypeId} {x:Value} {ms:Array (String×TypeId)} (h:P.underlying t=some (.interface ms)) (w:World):(Op.equalIn (d+1) t (.iface u x) .nilIface).run P w= .ok false w:=by
 simp [Op.equalIn,run_underlying h]
theorem sW {P:Program} (d:Nat) {t:TypeId} {ms:Array (String×TypeId)} (h:P.underlying t=some (.interface ms)) (w:World):(Op.equalIn (d+1) t .nilIface .nilIface).run P w= .ok true w:=by
 simp [Op.equalIn,run_underlying h]
theorem sX {P:Program} (d:Nat) {t e:TypeId} {a:Addr} (h:P.underlying t=some (.pointer e)) (w:World):(Op.equalIn (d+1) t (.pointer (some a)) (.pointer none)).run P w= .ok false w:=by
 simp [Op.equalIn,run_underlying h]
theorem sY {P:Program} (d:Nat) {t e:TypeId} (h:P.underlying t=some (.pointer e)) (w:World):(Op.equalIn (d+1) t (.pointer none) (.pointer none)).run P w= .ok true w:=by
 simp [Op.equalIn,run_underlying h]
theorem V1 {P:Program} {t u:TypeId} {x:Value} {ms:Array (String×TypeId)} (h:P.underlying t=some (.interface ms)) (w:World):(Op.equal t (.iface u x) .nilIface).run P w= .ok false w:=nW 9999 h w
theorem bR {P:Program} {t:TypeId} {ms:Array (String×TypeId)} (h:P.underlying t=some (.interface ms)) (w:World):(Op.equal t .nilIface .nilIface).run P w= .ok true w:=sW 9999 h w
theorem bT {P:Program} {t e:TypeId} {a:Addr} (h:P.underlying t=some (.pointer e)) (w:World):(Op.equal t (.pointer (some a)) (.pointer none)).run P w= .ok false w:=sX 9999 h w
theorem bU {P:Program} {t e:TypeId} (h:P.underlying t=some (.pointer e)) (w:World):(Op.equal t (.pointer none) (.pointer none)).run P w= .ok true w:=sY 9999 h w
theorem jz {P:Program} {op:BinOp} {t:TypeId} {x y:V} {u v:Value} {w:World} {G:Bj} {ox oy:Operand} (hx:Ak w G x u) (hy:Ak w G y v) (hs:(U3 P op t (BR ox||BR oy) x y).1):
 ∃ r,Ak w G (U3 P op t (BR ox||BR oy) x y).2 r∧ ∀ w',(do eqGuard op t ox oy u v;binOp op t u v).run P w'= .ok r w':=by
 unfold U3 at *
 split at hs
 ·simp only [Ak,Ap]at hx hy
  subst hx hy
  exact⟨_,by simp only [Ak];exact(Bm (ZE (P:=P) (t:=t) (ox:=ox) (oy:=oy) hs.1 hs.2 w).2).2 rfl,fun w'=>(ZE hs.1 hs.2 w').1⟩
 ·simp only [Ak,Ap]at hx hy
  subst hx hy
  exact⟨_,by simp only [Ak];exact(Bm (ZF (P:=P) (t:=t) (ox:=ox) (oy:=oy) hs w).2).2 rfl,fun w'=>(ZF hs w').1⟩
 ·simp only [Ak,Ap]at hx hy
  subst hx hy
  split at hs
  ·exact⟨_,(Bm rfl).2 rfl,fun w'=>by simp [eqGuard,run_eql_bool w' t _ _ (TT hs),Hz]⟩
  ·exact⟨_,(Bm rfl).2 rfl,fun w'=>by simp [eqGuard,run_neq_bool w' t _ _ (TT hs),Hz,bne]⟩
  ·exact hs.elim
 ·simp only [Ak,Ap]at hx hy
  subst hx hy
  refine IH hs (by simp) (fun q w'=>?_) (fun q w'=>?_)
  ·have hk:=q.1
   cases ox<;>cases oy<;>simp_all [BR,eqGuard]<;>(try (split<;>rfl))
  ·obtain⟨ms,hm⟩:=PT q.2
   exact bR hm w'
 ·simp only [Ak,Ap]at hx hy
  obtain⟨t',x',rfl⟩:=hx
  subst hy
  refine IH hs (by simp) (fun q w'=>?_) (fun q w'=>?_)
  ·simp [eqGuard]<;>(try (split<;>rfl))
  ·obtain⟨ms,hm⟩:=PT q
   exact V1 hm w'
 ·simp only [Ak,Ap]at hx hy
  obtain⟨b,_,rfl⟩:=hx
  subst hy
  refine IH hs (by simp) (fun q w'=>?_) (fun q w'=>?_)
  ·simp [eqGuard]<;>(try (split<;>rfl))
  ·obtain⟨ms,hm⟩:=V0 q
   exact bT hm w'
 ·simp only [Ak,Ap]at hx hy
  subst hx hy
  refine IH hs (by simp) (fun q w'=>?_) (fun q w'=>?_)
  ·simp [eqGuard]<;>(try (split<;>rfl))
  ·obtain⟨ms,hm⟩:=V0 q
   exact bU hm w'
 ·exact hs.elim
end Go.PL
namespace Go.PL
open Go Go.RowKit
abbrev no:Prop×V:=(False, .undef)
def sU (op:UnOp):V→Prop×V
 | .c (.int k n)=>match op with
   | .neg =>(True, .c (.int k (k.wrap (0 - n))))
   | .xor =>(True, .c (.int k (jx k (if k.signed then -1 else k.max) n)))
   | _=>no
 | .c (.bool b)=>match op with
   | .not =>(True, .c (.bool !b))
   | _=>no
 | _=>no
theorem nX {P:Program} {op:UnOp} {x:V} {u:Value} {w:World} {G:Bj} (hx:Ak w G x u) (hs:(sU op x).1):
 ∃ r,Ak w G (sU op x).2 r∧ ∀ w',(Op.unary op u).run P w'= .ok r w':=by
 unfold sU at *
 split at hs
 ·simp only [Ak,Ap]at hx;subst hx
  split at hs
  ·exact⟨_,(Bm rfl).2 rfl,fun w'=>by simp [Op.unary,Op.intArith,Hz]⟩
  ·exact⟨_,(Bm rfl).2 rfl,fun w'=>by simp [Op.unary,Op.intBits,Hz,jx]⟩
  ·exact hs.elim
 ·simp only [Ak,Ap]at hx;subst hx
  split at hs
  ·exact⟨_,(Bm rfl).2 rfl,fun w'=>by simp [Op.unary,Hz]⟩
  ·exact hs.elim
 ·exact hs.elim
def eP (P:Program) (t:TypeId):Option IntKind:=
 match P.underlying t with
 | some (.int k)=>some k
 | _=>none
theorem jA {P:Program} {t:TypeId} {k:IntKind} (h:eP P t=some k):P.underlying t=some (.int k):=by
 unfold eP at h;split at h<;>simp_all
def sZ (P:Program) (t:TypeId):Bool:=(P.underlying t).isSome
def bytesOf:List C→Option (List UInt8)
 | []=>some []
 | .int .u8 n::cs=>match bytesOf cs with
   | some bs=>if 0≤n∧n<256 then some (UInt8.ofNat n.toNat::bs)else none
   | none=>none
 | _=>none
def KB:List C→List UInt8
 | []=>[]
 | .int _ n::cs=>UInt8.ofNat n.toNat::KB cs
 | _::cs=>KB cs
def II:List C→Prop
 | []=>True
 | .int .u8 n::cs=>(0≤n∧n<256)∧II cs
 | _=>False
theorem V2: ∀ {cs:List C},II cs→bytesOf cs=some (KB cs)
 | [],_=>rfl
 | c::cs,h=>by
   unfold II at h
   split at h
   ·cases ‹_=([]:List C)›
   ·rename_i n cs' he
    injection he with h1 h2;subst h1 h2
    simp [bytesOf,V2 h.2,h.1,KB]
   ·exact h.elim
def Gh (P:Program) (t:TypeId):Bool:=
 match P.underlying t with
 | some (.slice e)=>match P.underlying e with
   | some (.int .u8)=>true
   | _=>false
 | _=>false
def IJ (P:Program) (src dst:TypeId) (st:St):V→Prop×V
 | .c (.int _ n)=>match eP P dst with
   | some k=>(sZ P src=true, .c (.int k (k.wrap n)))
   | none=>no
 | .c (.str s)=>(EK P src=true∧EK P dst=true, .c (.str s))
 | .c (.osl id)=>match st.look id with
   | some e=>match e.row with
     | some (_,n,_)=>((Gh P src=true∧EK P dst=true)∧n=1∧II e.cs, .c (.str (KB e.cs)))
     | _=>no
   | none=>no
 | _=>no
theorem RW {P:Program} {t:TypeId} (h:Gh P t=true): ∃ e,P.underlying t=some (.slice e)∧P.underlying e=some (.int .u8):=by
 unfold Gh at h
 split at h
 ·rename_i e he;split at h
  ·rename_i h2;exact⟨e,he,h2⟩
  ·cases h
 ·cases h
theorem PU {w:World} {G:Bj}: ∀ {cs:List C} {bs:List UInt8} {vs:List Value},bytesOf cs=some bs→At w G cs vs→vs=bs.map (fun b=>Value.int .u8 b.toNat)
 | [],bs,vs,h,hr=>by
   simp [bytesOf]at h;subst h
   cases vs<;>simp_all [At]
 | c::cs,bs,vs,h,hr=>by
   cases vs with
   | nil=>simp [At]at hr
   | cons v vs=>
     simp only [At]at hr
     unfold bytesOf at h
     split at h
     ·cases ‹_=([]:List C)›
     ·rename_i n cs' he
      injection he with h1 h2;subst h1 h2
      split at h
      ·rename_i bs' hb
       split at h
       ·rename_i hn
        injection h with h;subst h
        have:=PU hb hr.2
        simp only [Ap]at hr
        rw [hr.1,this]
        simp only [List.map_cons,List.cons.injEq,and_true,Value.int.injEq,true_and]
        have:(UInt8.ofNat n.toNat).toNat =n.toNat:=by simp;omega
        rw [this];omega
       ·cases h
      ·cases h
     ·cases h
theorem eQ {P:Program} {F:Fr} {st:St} {a:Act} {w:World} {G:Bj} (h:R F st a w G) {src dst:TypeId} {x:V} {u:Value} (hx:Ak w G x u) (hs:(IJ P src dst st x).1):
 ∃ r,Ak w G (IJ P src dst st x).2 r∧ ∀ w',Fy w w'→(convert src dst u).run P w'= .ok r w':=by
 unfold IJ at *
 split at hs
 ·simp only [Ak,Ap]at hx;subst hx
  split at hs
  ·rename_i k hk
   unfold sZ at hs
   cases hu:P.underlying src with
   | none=>simp [hu]at hs
   | some d=>exact⟨_,(Bm rfl).2 rfl,fun w' _=>by simp [convert,run_underlying hu,run_underlying (jA hk),Conv.intToInt,Hz]⟩
  ·exact hs.elim
 ·simp only [Ak,Ap]at hx;subst hx
  exact⟨_,(Bm rfl).2 rfl,fun w' _=>by simp [convert,run_underlying (FD hs.1),run_underlying (FD hs.2),Hz]⟩
 ·rename_i id
  split at hs
  ·rename_i e he
   split at hs
   ·rename_i E n len hrow
    obtain⟨hs,rfl,hbs⟩:=hs
    have hb:=V2 hbs
    generalize KB e.cs=bs at *
    obtain⟨t,hs1,hs2⟩:=RW hs.1
    have hd:=FD hs.2
    obtain⟨hm,hid⟩:=B6 he
    have hE:=h.store e hm
    unfold BQ at hE
    rw [hrow]at hE
    obtain⟨hl,v,hown,hcase⟩:=hE
    simp only [Ak,Ap]at hx
    rw [hid]at hown
    rw [hown]at hx
    obtain⟨hx,_⟩:=hx
    injection hx with hx;subst hx
    refine⟨.string ⟨bs.toArray⟩,(Bm rfl).2 rfl,fun w' hw'=>?_⟩
    rcases hcase with ⟨p,rfl,h0,_⟩ | ⟨b,cap,cur,rfl,_,_,_,_,_,hr⟩
    ·have:e.cs=[]:=by cases hc:e.cs with
      | nil=>rfl
      | cons c cs=>rw [hc,h0]at hl;simp at hl
     rw [this]at hb;simp [bytesOf]at hb;subst hb
     cases p with
     | none=>exact run_convert_bytes_nil w' src t hs1 hs2 0 0 dst hd
     | some p=>exact run_convert_bytes_back w' src dst t p 0 [] hs1 hs2 hd (fun j hj=>by simp at hj)
    ·obtain⟨vs,h1,h2⟩:=hr.list
     have hv:=PU hb h1
     have hlen:bs.length=len:=by
      have:=h1.length;rw [hv]at this;simp at this;omega
     rw [←hlen]
     refine run_convert_bytes_back w' src dst t ⟨b,0,none⟩ cap bs hs1 hs2 hd ?_
     intro j hj
     rw [Addr.add_mid]
     simpa using hw'.range h2 j (.int .u8 bs[j].toNat) (by rw [hv];simp [hj])
   ·exact hs.elim
  ·exact hs.elim
 ·exact hs.elim
theorem eR {P:Program} {t:TypeId} {f o n:Nat} {ag:Bool} (h:pW P t f=some (o,ag,n)):
 ∃ fs x,P.underlying t=some (.struct fs)∧fs[f]? =some x∧x.offset=o∧Or P x.type=some (ag,n):=by
 unfold pW at h
 split at h
 ·rename_i fs h1
  split at h
  ·rename_i x h2
   split at h
   ·rename_i ag' n' h3
    simp only [Option.some.injEq,Prod.mk.injEq]at h
    obtain⟨rfl,rfl,rfl⟩:=h
    exact⟨fs,x,h1,h2,rfl,h3⟩
   ·cases h
  ·cases h
 ·cases h
def BY (P:Program) (s:TypeId) (f:Nat):V→Prop×V
 | .c (.ptr id off)=>match pW P s f with
   | some (o,_,n)=>(0<n, .c (.ptr id (off+o)))
   | none=>no
 | .c (.iptr cs off)=>match pW P s f with
   | some (o,_,n)=>(0<n, .c (.iptr cs (off+o)))
   | none=>no
 | _=>no
theorem run_fieldAt' {P:Program} {s:TypeId} {f o n:Nat} {ag:Bool} (h:pW P s f=some (o,ag,n)) (hn:0<n) (b off:Nat) (w:World):
 (Instr.fieldAt s (.pointer (some ⟨b,off,none⟩)) f).run P w= .ok (.pointer (some ⟨b,off+o,none⟩)) w:=by
 obtain⟨fs,x,h1,h2,h3,h4⟩:=eR h
 obtain⟨d,i,hu,_,hi,hsz⟩:=Ep h4
 simp only [Instr.fieldAt,Sem.run_bind,run_underlying h1,Result.andThen_ok,h2,Instr.sureAddr,Sem.run_pure,fieldPlace,sizeOf,typeInfo]
 have: ¬i.size=0:=by omega
 simp [program,Sem.run,hi,this,h3,Addr.add_mid]
theorem RX {P:Program} {s:TypeId} {f:Nat} {x:V} {u:Value} {w:World} {G:Bj} (hx:Ak w G x u) (hs:(BY P s f x).1):
 ∃ r,Ak w G (BY P s f x).2 r∧ ∀ w',(Instr.fieldAt s u f).run P w'= .ok r w':=by
 unfold BY at *
 split at hs
 ·split at hs
  ·rename_i o ag n hf
   simp only [Ak,Ap]at hx ⊢
   obtain⟨b,hb,rfl⟩:=hx
   exact⟨_,⟨b,hb,rfl⟩,fun w'=>run_fieldAt' hf hs b _ w'⟩
  ·exact hs.elim
 ·split at hs
  ·rename_i o ag n hf
   simp only [Ak,Ap]at hx ⊢
   obtain⟨hp,b,o',rfl,h1,h2,h3⟩:=hx
   exact⟨_,⟨hp,b,o',rfl,h1,h2,h3⟩,fun w'=>by rw [run_fieldAt' hf hs b _ w',Nat.add_assoc]⟩
  ·exact hs.elim
 ·exact hs.elim
theorem run_part' {P:Program} {t:TypeId} {ag:Bool} {n:Nat} (ht:Or P t=some (ag,n)) {w:World} {G:Bj} {cs:List C} {arr:Array Value} (h:At w G cs arr.toList) {off:Nat} (hb:off+n≤cs.length) (h0:ag=true∨0<n):
 ∃ r,Ak w G (toV ag off n cs) r∧ ∀ w',(part t arr off).run P w'= .ok r w':=by
 obtain⟨d,i,hu,hd,hi,hsz⟩:=Ep ht
 have hagg: ∀ w',(isAgg t).run P w'= .ok ag w':=by
  intro w'
  unfold isAgg
  rw [Sem.run_bind,run_underlying hu w']
  cases d<;>simp_all
 have hlen:=h.length
 unfold toV
 cases hag:ag with
 | true=>
   refine⟨.agg (arr.extract off (off+n)),⟨_,rfl,?_⟩,fun w'=>?_⟩
   ·have:=(h.drop off).take n
    simpa [Array.toList_extract,List.extract_eq_take_drop] using this
   ·simp [part,Sem.run_bind,hagg,hag,sizeOf,typeInfo,program,Sem.run,hi,hsz]
 | false=>
   have hn0:0<n:=by rcases h0 with h' | h'; · rw [hag]at h';cases h'
                    ·exact h'
   have hlt:off<cs.length:=by omega
   obtain⟨v,hv,hr⟩:=h.get off cs[off] (by simp [hlt])
   refine⟨v,by simpa [Ak,List.getD_eq_getElem?_getD,hlt] using hr,fun w'=>?_⟩
   have hv':arr[off]? =some v:=by simpa using hv
   simp [part,Sem.run_bind,hagg,hag,hv']
def HA (P:Program) (t:TypeId) (f:Nat):V→Prop×V
 | .agg cs=>match pW P t f with
   | some (o,ag,n)=>(o+n≤cs.length∧(ag=true∨0<n),toV ag o n cs)
   | none=>no
 | _=>no
theorem bV {P:Program} {t:TypeId} {f:Nat} {x:V} {u:Value} {w:World} {G:Bj} (hx:Ak w G x u) (hs:(HA P t f x).1):
 ∃ r,Ak w G (HA P t f x).2 r∧ ∀ w',(Instr.field t u f).run P w'= .ok r w':=by
 unfold HA at *
 split at hs
 ·split at hs
  ·rename_i o ag n hf
   simp only [Ak]at hx
   obtain⟨arr,rfl,hr⟩:=hx
   obtain⟨fs,y,h1,h2,h3,h4⟩:=eR hf
   obtain⟨r,q1,q2⟩:=run_part' h4 hr hs.1 hs.2
   exact⟨r,q1,fun w'=>by simp [Instr.field,Sem.run_bind,run_underlying h1,h2,asAgg,h3,q2]⟩
  ·exact hs.elim
 ·exact hs.elim
def B9 (P:Program) (t:TypeId) (st:St) (x y:V):Prop×V:=
 match y with
 | .c (.int _ i)=>match x with
   | .c (.sl len cs)=>match Eo P t with
     | some (_,n)=>(0≤i∧i<len, .c (.iptr cs (i.toNat*n)))
     | none=>no
   | .c (.osl id)=>match Eo P t,st.lookR id with
     | some (_,n),some e=>match e.row with
       | some (_,_,len)=>(0≤i∧i<len, .c (.ptr id (i.toNat*n)))
       | none=>no
     | _,_=>no
   | .c (.bsl id off len)=>match Eo P t with
     | some (_,n)=>(0≤i∧i<len, .c (.ptr id (off+i.toNat*n)))
     | none=>no
   | .c (.ptr id off)=>match Gf P t with
     | some (k,_,n)=>(0≤i∧i<k, .c (.ptr id (off+i.toNat*n)))
     | none=>no
   | .c (.iptr cs off)=>match Gf P t with
     | some (k,_,n)=>(0≤i∧i<k, .c (.iptr cs (off+i.toNat*n)))
     | none=>no
   | _=>no
 | _=>no
theorem EZ {P:Program} {t e:TypeId} {n:Nat} (h:Eo P t=some (e,n)) (b o len cap:Nat) (k:IntKind) (i:Int) (h0:0≤i) (h1:i<len) (w:World):
 (Instr.indexAt t (.slice (some ⟨b,o,none⟩) len cap) (.int k i)).run P w= .ok (.pointer (some ⟨b,o+i.toNat*n,none⟩)) w:=by
 obtain⟨hu,inf,hi,hsz⟩:=O1 h
 simp [Instr.indexAt,asIntOf,Sem.run_bind,run_underlying hu,h0,h1,sizeOf,typeInfo,program,Sem.run,hi,hsz,Addr.add_mid]
theorem L7 {P:Program} {t e:TypeId} {m n:Nat} (h:Gf P t=some (m,e,n)) (b o:Nat) (k:IntKind) (i:Int) (h0:0≤i) (h1:i<m) (w:World):
 (Instr.indexAt t (.pointer (some ⟨b,o,none⟩)) (.int k i)).run P w= .ok (.pointer (some ⟨b,o+i.toNat*n,none⟩)) w:=by
 obtain⟨hu,inf,hi,hsz⟩:=KA h
 simp [Instr.indexAt,asIntOf,Sem.run_bind,run_underlying hu,h0,h1,sizeOf,typeInfo,program,Sem.run,hi,hsz,Addr.add_mid,Instr.sureAddr]
theorem RY {P:Program} {F:Fr} {st:St} {a:Act} {w:World} {G:Bj} (h:R F st a w G) {t:TypeId} {x y:V} {u v:Value} (hx:Ak w G x u) (hy:Ak w G y v) (hs:(B9 P t st x y).1):
 ∃ r,Ak w G (B9 P t st x y).2 r∧ ∀ w',(Instr.indexAt t u v).run P w'= .ok r w':=by
 unfold B9 at *
 split at hs
 ·rename_i k i
  simp only [Ak,Ap]at hy;subst hy
  split at hs
  ·split at hs
   ·rename_i len cs e n hse
    simp only [Ak,Ap]at hx ⊢
    obtain⟨hp,ad,cap,rfl,_,_,_,h0 | ⟨b,o,rfl,h1,h2,h3⟩⟩:=hx
    ·omega
    ·exact⟨_,⟨hp,b,o,rfl,h1,h2,h3⟩,fun w'=>EZ hse b o _ _ k i hs.1 hs.2 w'⟩
   ·exact hs.elim
  ·rename_i id
   split at hs
   ·rename_i e n en hse hlk
    split at hs
    ·rename_i E n' len hrow
     obtain⟨hm,hid⟩:=RU hlk
     have hE:=h.store en hm
     unfold BQ at hE
     rw [hrow]at hE
     obtain⟨hl,v,hown,hcase⟩:=hE
     simp only [Ak,Ap]at hx ⊢
     rw [hid]at hown
     rw [hown]at hx
     obtain⟨hx,_⟩:=hx
     injection hx with hx;subst hx
     rcases hcase with ⟨_,h0,_⟩ | ⟨b,cap,cur,rfl,hb,_⟩
     ·omega
     ·refine⟨_,⟨b,by rw [←hid];exact hb,rfl⟩,fun w'=>?_⟩
      simpa using EZ hse b 0 len cap k i hs.1 hs.2 w'
    ·exact hs.elim
   ·exact hs.elim
  ·rename_i id off len
   split at hs
   ·rename_i e n hse
    simp only [Ak,Ap]at hx ⊢
    obtain⟨b,cap,hb,rfl,hc⟩:=hx
    exact⟨_,⟨b,hb,rfl⟩,fun w'=>EZ hse b off len cap k i hs.1 hs.2 w'⟩
   ·exact hs.elim
  ·split at hs
   ·rename_i m e n hae
    simp only [Ak,Ap]at hx ⊢
    obtain⟨b,hb,rfl⟩:=hx
    exact⟨_,⟨b,hb,rfl⟩,fun w'=>L7 hae b _ k i hs.1 hs.2 w'⟩
   ·exact hs.elim
  ·split at hs
   ·rename_i m e n hae
    simp only [Ak,Ap]at hx ⊢
    obtain⟨hp,b,o,rfl,h1,h2,h3⟩:=hx
    exact⟨_,⟨hp,b,o,rfl,h1,h2,h3⟩,fun w'=>by rw [L7 hae b _ k i hs.1 hs.2 w',Nat.add_assoc]⟩
   ·exact hs.elim
  ·exact hs.elim
 ·exact hs.elim
def GN (P:Program) (t:TypeId) (x y:V):Prop×V:=
 match y with
 | .c (.int _ i)=>match x with
   | .c (.str s)=>(EK P t=true∧0≤i∧i<s.length, .c (.int .u8 (s.getD i.toNat 0).toNat))
   | .agg cs=>match Gf P t with
     | some (k,e,n)=>match Or P e with
       | some (ag,_)=>(0≤i∧i<k∧i.toNat*n+n≤cs.length∧0<n,toV ag (i.toNat*n) n cs)
       | none=>no
     | none=>no
   | _=>no
 | _=>no
theorem bW {P:Program} {t:TypeId} {x y:V} {u v:Value} {w:World} {G:Bj} (hx:Ak w G x u) (hy:Ak w G y v) (hs:(GN P t x y).1):
 ∃ r,Ak w G (GN P t x y).2 r∧ ∀ w',(Instr.index t u v).run P w'= .ok r w':=by
 unfold GN at *
 split at hs
 ·rename_i k i
  simp only [Ak,Ap]at hy;subst hy
  split at hs
  ·simp only [Ak,Ap]at hx;subst hx
   obtain⟨h1,h2,h3⟩:=hs
   rename_i s
   refine⟨_,(Bm rfl).2 rfl,fun w'=>?_⟩
   have hlt:i.toNat<s.length:=by omega
   have hg:(⟨s.toArray⟩:ByteArray)[i.toNat]? =some s[i.toNat]:=by
    rw [getElem?_pos _ _ (by simpa [ByteArray.size] using hlt)]
    rfl
   simp [Instr.index,asIntOf,Sem.run_bind,run_underlying (FD h1),h2,hg,Hz,List.getD_eq_getElem?_getD,hlt]
  ·split at hs
   ·rename_i m e n hae
    split at hs
    ·rename_i ag n' hts
     obtain⟨hu,inf,hi,hsz⟩:=KA hae
     obtain⟨d,inf',hu',hd,hi',hsz'⟩:=Ep hts
     rw [hi]at hi';injection hi' with hi';subst hi'
     have hnn:n'=n:=by omega
     subst hnn
     simp only [Ak]at hx
     obtain⟨arr,rfl,hr⟩:=hx
     obtain⟨r,q1,q2⟩:=run_part' hts hr hs.2.2.1 (.inr hs.2.2.2)
     exact⟨r,q1,fun w'=>by simp [Instr.index,asIntOf,Sem.run_bind,run_underlying hu,hs.1,hs.2.1,sizeOf,typeInfo,program,Sem.run,hi,hsz,q2]⟩
    ·exact hs.elim
   ·exact hs.elim
  ·exact hs.elim
 ·exact hs.elim
end Go.PL
namespace Go.PL
open Go Go.RowKit
def YH (len:Nat) (lo hi:Option V):Option (Int×Int):=
 match lo,hi with
 | none,none=>some (0,len)
 | some (.c (.int _ l)),none=>some (l,len)
 | none,some (.c (.int _ h))=>some (0,h)
 | some (.c (.int _ l)),some (.c (.int _ h))=>some (l,h)
 | _,_=>none
def FE (P:Program) (t:TypeId) (x:V) (lo hi:Option V):Prop×V:=
 match x with
 | .c (.str s)=>match YH s.length lo hi with
   | some (l,h)=>(EK P t=true∧0≤l∧l≤h∧h≤s.length, .c (.str ((s.drop l.toNat).take (h.toNat - l.toNat))))
   | none=>no
 | .c (.sl len cs)=>match Eo P t,YH len lo hi with
   | some (_,n),some (l,h)=>(0≤l∧l≤h∧h≤len∧cs.length=len*n, .c (.sl (h.toNat - l.toNat) ((cs.drop (l.toNat*n)).take ((h.toNat - l.toNat)*n))))
   | _,_=>no
 | .c (.ptr id off)=>match Gf P t,YH (match Gf P t with
  | some (k,_,_)=>k
  | none=>0) lo hi with
  | some (k,_,n),some (l,h)=>(0≤l∧l<k∧l≤h∧h≤k, .c (.bsl id (off+l.toNat*n) (h.toNat - l.toNat)))
  | _,_=>no
 | _=>no
def HB (w:World) (G:Bj):Option V→Option Value→Prop
 | none,none=>True
 | some x,some v=>Ak w G x v
 | _,_=>False
theorem run_sliceBound' {P:Program} (w:World) (k:IntKind) (i:Int) (y:Nat) (code:BoundsCode) (h0:0≤i) (h1:i≤y):
 (Instr.sliceBound (.int k i) y code).run P w= .ok i.toNat w:=by
 simp [Instr.sliceBound,asIntOf,h0,h1]
theorem V3 {P:Program} {w:World} {G:Bj} {len cap:Nat} {lo hi:Option V} {lv hv:Option Value} {l h:Int} (sl:Bool) (hb:YH len lo hi=some (l,h)) (h1:HB w G lo lv) (h2:HB w G hi hv)
 (q1:0≤l) (q2:l≤h) (q3:h≤len) (q4:len≤cap): ∀ w',(Instr.sliceBounds sl len cap lv hv none).run P w'= .ok (l.toNat,h.toNat,cap) w':=by
 intro w'
 unfold YH at hb
 split at hb
 ·simp only [Option.some.injEq,Prod.mk.injEq]at hb;obtain⟨rfl,rfl⟩:=hb
  cases lv<;>cases hv<;>simp only [HB]at h1 h2
  simp [Instr.sliceBounds]
 ·rename_i k1 l1
  simp only [Option.some.injEq,Prod.mk.injEq]at hb;obtain⟨rfl,rfl⟩:=hb
  cases lv<;>cases hv<;>simp only [HB,Ak,Ap]at h1 h2
  subst h1
  have e1:=fun code=>run_sliceBound' (P:=P) w' k1 l1 len code q1 (by omega)
  simp [Instr.sliceBounds,e1]
 ·rename_i k2 l2
  simp only [Option.some.injEq,Prod.mk.injEq]at hb;obtain⟨rfl,rfl⟩:=hb
  cases lv<;>cases hv<;>simp only [HB,Ak,Ap]at h1 h2
  subst h2
  have e2:=fun code=>run_sliceBound' (P:=P) w' k2 l2 cap code (by omega) (by omega)
  simp [Instr.sliceBounds,e2]
 ·rename_i k1 l1 k2 l2
  simp only [Option.some.injEq,Prod.mk.injEq]at hb;obtain⟨rfl,rfl⟩:=hb
  cases lv<;>cases hv<;>simp only [HB,Ak,Ap]at h1 h2
  subst h1 h2
  have e1:=fun code=>run_sliceBound' (P:=P) w' k1 l1 l2.toNat code q1 (by omega)
  have e2:=fun code=>run_sliceBound' (P:=P) w' k2 l2 cap code (by omega) (by omega)
  simp [Instr.sliceBounds,e1,e2]
 ·cases hb
theorem bX {P:Program} {t:TypeId} {x:V} {lo hi:Option V} {u:Value} {lv hv:Option Value} {w:World} {G:Bj} (hx:Ak w G x u) (h1:HB w G lo lv) (h2:HB w G hi hv) (hs:(FE P t x lo hi).1):
 ∃ r,Ak w G (FE P t x lo hi).2 r∧ ∀ w',(Instr.sliceAt t u lv hv none).run P w'= .ok r w':=by
 unfold FE at *
 split at hs
 ·rename_i s
  split at hs
  ·rename_i l h hb
   simp only [Ak,Ap]at hx;subst hx
   obtain⟨q0,q1,q2,q3⟩:=hs
   refine⟨_,(Bm rfl).2 rfl,fun w'=>?_⟩
   have e:(⟨s.toArray⟩:ByteArray).extract l.toNat h.toNat=⟨((s.drop l.toNat).take (h.toNat - l.toNat)).toArray⟩:=by
    apply ByteArray.ext
    apply Array.ext'
    simp [ByteArray.data_extract,List.extract_eq_take_drop]
   have:=V3 (P:=P) (w:=w) (G:=G) false (len:=s.length) (cap:=s.length) hb h1 h2 q1 q2 q3 (Nat.le_refl _) w'
   simp [Instr.sliceAt,Instr.slice,Sem.run_bind,run_underlying (FD q0),jy,this,Hz,e]
  ·exact hs.elim
 ·rename_i len cs
  split at hs
  ·rename_i e n l h hse hb
   obtain⟨q1,q2,q3,q4⟩:=hs
   obtain⟨hu,inf,hi',hsz⟩:=O1 hse
   simp only [Ak,Ap]at hx ⊢
   obtain⟨hp,ad,cap,rfl,c1,c2,c3,c4⟩:=hx
   have hr:=fun w'=>V3 (P:=P) (w:=w) (G:=G) true (len:=len) (cap:=cap) hb h1 h2 q1 q2 q3 c1 w'
   refine⟨.slice (if cap=l.toNat then ad else ad.map (·.add (l.toNat*n))) (h.toNat - l.toNat) (cap - l.toNat),⟨Kw _ (Kx _ hp),_,_,rfl,by omega,by omega,?_,?_⟩,fun w'=>?_⟩
   ·intro h0;rw [h0];simp
   ·by_cases hz:h.toNat - l.toNat=0
    ·exact .inl hz
    ·right
     rcases c4 with c4 | ⟨b,o,rfl,k1,k2,k3⟩
     ·omega
     ·have hne: ¬cap=l.toNat:=by omega
      refine⟨b,o+l.toNat*n,?_,k1,k2,?_⟩
      ·rw [if_neg hne];simp [Addr.add_mid]
      ·exact(k3.drop (l.toNat*n)).take _
   ·simp [Instr.sliceAt,Instr.slice,Sem.run_bind,run_underlying hu,hr,sizeOf,typeInfo,program,Sem.run,hi',hsz]
  ·exact hs.elim
 ·rename_i id off
  split at hs
  ·rename_i k e n l h hae hb
   obtain⟨q1,q2,q3,q4⟩:=hs
   obtain⟨hu,inf,hi',hsz⟩:=KA hae
   simp only [hae]at hb
   simp only [Ak,Ap]at hx ⊢
   obtain⟨b,hb1,rfl⟩:=hx
   have hr:=fun sl w'=>V3 (P:=P) (w:=w) (G:=G) sl (len:=k) (cap:=k) hb h1 h2 q1 q3 q4 (Nat.le_refl _) w'
   have hne: ¬k=l.toNat:=by omega
   refine⟨.slice (some (if k=l.toNat then⟨b,off,none⟩else(⟨b,off,none⟩:Addr).add (l.toNat*n))) (h.toNat - l.toNat) (k - l.toNat),⟨b,k - l.toNat,hb1,?_,by omega⟩,fun w'=>?_⟩
   ·rw [if_neg hne,Addr.add_mid]
   ·simp [Instr.sliceAt,Instr.sureAddr,Sem.run_bind,run_underlying hu,hr,sizeOf,typeInfo,program,Sem.run,hi',hsz]
  ·exact hs.elim
 ·exact hs.elim
def F2 (P:Program) (t:TypeId):Bool:=
 match P.underlying t with
 | some (.slice _)=>true
 | _=>false
def O2 (P:Program) (t:TypeId) (st:St) (x:V):Prop×V:=
 match x with
 | .c (.str s)=>(EK P t=true, .c (.int .i64 s.length))
 | .c (.sl len _)=>(F2 P t=true, .c (.int .i64 len))
 | .c (.osl id)=>match st.lookR id with
   | some e=>match e.row with
     | some (_,_,len)=>(F2 P t=true, .c (.int .i64 len))
     | none=>no
   | none=>no
 | .c (.bsl _ _ len)=>(F2 P t=true, .c (.int .i64 len))
 | _=>match Gf P t with
   | some (k,_,_)=>(True, .c (.int .i64 k))
   | none=>no
theorem G1 {P:Program} {t:TypeId} (h:F2 P t=true): ∃ e,P.underlying t=some (.slice e):=by
 unfold F2 at h
 split at h
 ·rename_i e he;exact⟨e,he⟩
 ·cases h
theorem nY {F:Fr} {st:St} {a:Act} {w:World} {G:Bj} (h:R F st a w G) {id:AC} {e:AM} (he:st.lookR id=some e) {E n len:Nat} (hrow:e.row=some (E,n,len)) {u:Value} (hx:Ap w G (.osl id) u):
 ∃ ad cap,u= .slice ad len cap:=by
 obtain⟨hm,hid⟩:=RU he
 have hE:=h.store e hm
 unfold BQ at hE
 rw [hrow]at hE
 obtain⟨hl,v,hown,hcase⟩:=hE
 simp only [Ap]at hx
 rw [hid]at hown
 rw [hown]at hx
 obtain⟨hx,_⟩:=hx
 injection hx with hx;subst hx
 rcases hcase with ⟨p,rfl,h0,_⟩ | ⟨b,cap,cur,rfl,_⟩
 ·exact⟨p,0,by rw [h0]⟩
 ·exact⟨_,cap,rfl⟩
theorem jB {P:Program} {F:Fr} {st:St} {a:Act} {w:World} {G:Bj} (h:R F st a w G) {t ty:TypeId} {x:V} {u:Value} (hx:Ak w G x u) (hs:(O2 P t st x).1):
 ∃ r,Ak w G (O2 P t st x).2 r∧ ∀ w',(Builtin.len_ #[t] ty #[u]).run P w'= .ok r w':=by
 unfold O2 at *
 split at hs
 ·simp only [Ak,Ap]at hx;subst hx
  exact⟨_,(Bm rfl).2 rfl,fun w'=>by simp [Builtin.len_,Sem.run_bind,run_underlying (FD hs),goInt,jy,Hz]⟩
 ·obtain⟨e,he⟩:=G1 hs
  simp only [Ak,Ap]at hx
  obtain⟨_,ad,cap,rfl,_⟩:=hx
  exact⟨_,(Bm rfl).2 rfl,fun w'=>by simp [Builtin.len_,Sem.run_bind,run_underlying he,goInt,Hz]⟩
 ·split at hs
  ·rename_i e hlk
   split at hs
   ·rename_i E n len hrow
    obtain⟨el,he⟩:=G1 hs
    obtain⟨ad,cap,rfl⟩:=nY h hlk hrow (by simpa [Ak] using hx)
    exact⟨_,(Bm rfl).2 rfl,fun w'=>by simp [Builtin.len_,Sem.run_bind,run_underlying he,goInt,Hz]⟩
   ·exact hs.elim
  ·exact hs.elim
 ·obtain⟨e,he⟩:=G1 hs
  simp only [Ak,Ap]at hx
  obtain⟨b,cap,hb,rfl,hc⟩:=hx
  exact⟨_,(Bm rfl).2 rfl,fun w'=>by simp [Builtin.len_,Sem.run_bind,run_underlying he,goInt,Hz]⟩
 ·split at hs
  ·rename_i k el n hae
   obtain⟨hu,_⟩:=KA hae
   exact⟨_,(Bm rfl).2 rfl,fun w'=>by simp [Builtin.len_,Sem.run_bind,run_underlying hu,goInt,Hz]⟩
  ·exact hs.elim
def GO:List V→Option (IntKind×Int×List Int)
 | [.c (.int k x)]=>some (k,x,[])
 | .c (.int k x)::vs=>match GO vs with
   | some (_,y,ys)=>some (k,x,y::ys)
   | none=>none
 | _=>none
def jC (vs:List V):Prop×V:=
 match GO vs with
 | some (k,x,ys)=>(True, .c (.int k (ys.foldl (fun a y=>if y<a then y else a) x)))
 | none=>no
def jD (vs:List V):Prop×V:=
 match GO vs with
 | some (k,x,ys)=>(True, .c (.int k (ys.foldl (fun a y=>if a<y then y else a) x)))
 | none=>no
theorem O3 {w:World} {G:Bj}: ∀ {vs:List V} {us:List Value} {k:IntKind} {x:Int} {ys:List Int},GO vs=some (k,x,ys)→AJ w G vs us→
 ∃ ks:List IntKind,us= .int k x::(ks.zip ys).map (fun p=>Value.int p.1 p.2)∧ks.length=ys.length
 | [],us,k,x,ys,h,_=>by simp [GO]at h
 | [v],us,k,x,ys,h,hr=>by
   unfold GO at h
   split at h
   ·rename_i k' x' he
    injection he with he _;subst he
    simp only [Option.some.injEq,Prod.mk.injEq]at h
    obtain⟨rfl,rfl,rfl⟩:=h
    simp only [AJ,Ak,Ap]at hr
    obtain⟨v,r,rfl,rfl,rfl⟩:=hr
    exact⟨[],by simp⟩
   ·rename_i k' x' vs' hne he
    injection he with _ he
    subst he
    split at h
    ·rename_i q;simp [GO]at q
    ·cases h
   ·cases h
 | v::v2::vs,us,k,x,ys,h,hr=>by
   unfold GO at h
   split at h
   ·rename_i he;injection he with _ he;cases he
   ·rename_i k' x' vs' hne he
    injection he with he1 he2
    subst he1 he2
    split at h
    ·rename_i k2 y ys' q
     simp only [Option.some.injEq,Prod.mk.injEq]at h
     obtain⟨rfl,rfl,rfl⟩:=h
     rw [AJ]at hr
     obtain⟨u,r,rfl,h1,h2⟩:=hr
     simp only [Ak,Ap]at h1;subst h1
     obtain⟨ks,e,hl⟩:=O3 q h2
     exact⟨k2::ks,by rw [e];simp,by simp [hl]⟩
    ·cases h
   ·cases h
theorem PV {P:Program} (w:World) (k:IntKind): ∀ (ks:List IntKind) (ys:List Int) (x:Int),ks.length=ys.length→
 (((ks.zip ys).map (fun p=>Value.int p.1 p.2)).foldlM Builtin.min2 (.int k x)).run P w= .ok (.int k (ys.foldl (fun a y=>if y<a then y else a) x)) w
 | [],[],x,_=>by simp
 | [],_::_,_,h=>by simp at h
 | _::_,[],_,h=>by simp at h
 | k'::ks,y::ys,x,h=>by
   simp only [List.zip_cons_cons,List.map_cons,List.foldlM_cons,List.foldl_cons,Sem.run_bind,Builtin.min2,Sem.run_pure,Result.andThen_ok]
   exact PV w k ks ys _ (by simpa using h)
theorem PW {P:Program} (w:World) (k:IntKind): ∀ (ks:List IntKind) (ys:List Int) (x:Int),ks.length=ys.length→
 (((ks.zip ys).map (fun p=>Value.int p.1 p.2)).foldlM Builtin.max2 (.int k x)).run P w= .ok (.int k (ys.foldl (fun a y=>if a<y then y else a) x)) w
 | [],[],x,_=>by simp
 | [],_::_,_,h=>by simp at h
 | _::_,[],_,h=>by simp at h
 | k'::ks,y::ys,x,h=>by
   simp only [List.zip_cons_cons,List.map_cons,List.foldlM_cons,List.foldl_cons,Sem.run_bind,Builtin.max2,Sem.run_pure,Result.andThen_ok]
   exact PW w k ks ys _ (by simpa using h)
theorem jE {P:Program} {vs:List V} {us:Array Value} {w:World} {G:Bj} {ts:Array TypeId} {ty:TypeId} (hx:AJ w G vs us.toList) (hs:(jC vs).1):
 ∃ r,Ak w G (jC vs).2 r∧ ∀ w',(Builtin.min_ ts ty us).run P w'= .ok r w':=by
 unfold jC at *
 split at hs
 ·rename_i k x ys h
  obtain⟨ks,e,hl⟩:=O3 h hx
  exact⟨_,(Bm rfl).2 rfl,fun w'=>by simp only [Builtin.min_,e];exact PV w' k ks ys x hl⟩
 ·exact hs.elim
theorem jF {P:Program} {vs:List V} {us:Array Value} {w:World} {G:Bj} {ts:Array TypeId} {ty:TypeId} (hx:AJ w G vs us.toList) (hs:(jD vs).1):
 ∃ r,Ak w G (jD vs).2 r∧ ∀ w',(Builtin.max_ ts ty us).run P w'= .ok r w':=by
 unfold jD at *
 split at hs
 ·rename_i k x ys h
  obtain⟨ks,e,hl⟩:=O3 h hx
  exact⟨_,(Bm rfl).2 rfl,fun w'=>by simp only [Builtin.max_,e];exact PW w' k ks ys x hl⟩
 ·exact hs.elim
end Go.PL
namespace Go.PL
open Go Go.RowKit
def bnd (p:Prop×V) (f:V→Prop×V):Prop×V:=(p.1∧(f p.2).1,(f p.2).2)
def St.args (st:St) (g:Bool):List Operand→Prop×List V
 | []=>(True,[])
 | x::xs=>((st.arg g x).1∧(st.args g xs).1,(st.arg g x).2::(st.args g xs).2)
def O4:V→Option (Bool×Bool)
 | .c (.bool q)=>some (true,q)
 | .g c (.c (.bool q))=>some (c,q)
 | _=>none
def V4 (p:Bool) (a b:V):Prop×V:=
 match O4 a,O4 b with
 | some (ca,q),some (cb,r)=>((p=true→ca=true)∧(p=false→cb=true), .c (.bool (if p then q else r)))
 | _,_=>no
def U4:V→Prop×V
 | .c (.ptr id off)=>(True, .c (.ptr id off))
 | .c (.iptr cs off)=>(True, .c (.iptr cs off))
 | .c (.fn f)=>(True, .c (.fn f))
 | .c (.clo f cs)=>(True, .c (.clo f cs))
 | .c (.bmv f cs)=>(True, .c (.bmv f cs))
 | _=>no
def nZ (i:Nat):V→Prop×V
 | .tup vs=>(i<vs.length,vs.getD i .undef)
 | _=>no
def CA (st:St) (g:Bool):Option Operand→Prop×Option V
 | none=>(True,none)
 | some x=>((st.arg g x).1,some (st.arg g x).2)
def O5 (P:Program) (st:St) (g:Bool) (b:Builtin) (xs:List Operand) (ts:List TypeId):Prop×V:=
 match b,xs,ts with
 | .len,[x],[t]=>bnd (st.arg g x) (O2 P t st)
 | .min,xs,_=>((st.args g xs).1∧(jC (st.args g xs).2).1,(jC (st.args g xs).2).2)
 | .max,xs,_=>((st.args g xs).1∧(jD (st.args g xs).2).1,(jD (st.args g xs).2).2)
 | _,_,_=>no
def rd (P:Program) (st:St) (g:Bool):Op→Prop×V
 | .move x=>st.arg g x
 | .assign x=>st.arg g x
 | .pick c a b=>bnd (st.arg g c) fun p=>match p with
   | .c (.bool q)=>V4 q (st.ev a) (st.ev b)
   | _=>no
 | .load t x=>bnd (st.arg g x) (Er P t st)
 | .nilCheck x=>bnd (st.arg g x) U4
 | .binOp op t x y _=>bnd (st.arg g x) fun u=>bnd (st.arg g y) fun v=>U3 P op t (BR x||BR y) u v
 | .unOp op _ x=>bnd (st.arg g x) (sU op)
 | .convert src dst x=>bnd (st.arg g x) (IJ P src dst st)
 | .slice t x lo hi none=>bnd (st.arg g x) fun u=>((CA st g lo).1∧(CA st g hi).1∧(FE P t u (CA st g lo).2 (CA st g hi).2).1,(FE P t u (CA st g lo).2 (CA st g hi).2).2)
 | .fieldAddr s x f=>bnd (st.arg g x) (BY P s f)
 | .field t x f=>bnd (st.arg g x) (HA P t f)
 | .indexAddr t x i=>bnd (st.arg g x) fun u=>bnd (st.arg g i) fun v=>B9 P t st u v
 | .index t x i=>bnd (st.arg g x) fun u=>bnd (st.arg g i) fun v=>GN P t u v
 | .extract x i=>bnd (st.arg g x) (nZ i)
 | .call c=>match c.callee with
   | .builtin b=>O5 P st g b c.args.toList c.argTypes.toList
   | _=>no
 | _=>no
theorem V5 {w:World} {G:Bj} {x:V} {v:Value} {c q:Bool} (h:O4 x=some (c,q)) (hr:Ak w G x v) (hc:c=true):v= .bool q:=by
 unfold O4 at h
 split at h
 ·simp only [Option.some.injEq,Prod.mk.injEq]at h;obtain⟨rfl,rfl⟩:=h;simpa [Ak,Ap] using hr
 ·simp only [Option.some.injEq,Prod.mk.injEq]at h;obtain⟨rfl,rfl⟩:=h
  simp only [Ak]at hr;rw [if_pos hc]at hr;simpa [Ap] using hr
 ·cases h
theorem R.args {F:Fr} {st:St} {a:Act} {w:World} {G:Bj} (h:R F st a w G) {g:Bool} (hg:g=true): ∀ {xs:List Operand},(st.args g xs).1→AJ w G (st.args g xs).2 (xs.map a.eval)
 | [],_=>by simp [St.args,AJ]
 | x::xs,hs=>by
   simp only [St.args]at hs ⊢
   simp only [AJ,List.map_cons]
   exact⟨_,_,rfl,h.arg hg hs.1,h.args hg hs.2⟩
theorem JP {w:World} {G:Bj}: ∀ {xs:List V} {vs:List Value},AJ w G xs vs→ ∀ i,i<xs.length→ ∃ v,vs[i]? =some v∧Ak w G (xs.getD i .undef) v
 | [],vs,h,i,hi=>by simp at hi
 | x::xs,vs,h,i,hi=>by
   simp only [AJ]at h
   obtain⟨v,r,rfl,h1,h2⟩:=h
   cases i with
   | zero=>exact⟨v,by simp,by simpa using h1⟩
   | succ i=>
     obtain⟨v',q1,q2⟩:=JP h2 i (by simpa using hi)
     exact⟨v',by simpa using q1,by simpa using q2⟩
theorem V6 {F:Fr} {st:St} {a:Act} {w:World} {G:Bj} (h:R F st a w G) {g:Bool} (hg:g=true) {x:Option Operand} (hs:(CA st g x).1):HB w G (CA st g x).2 (x.map a.eval):=by
 cases x with
 | none=>simp [CA,HB]
 | some x=>simp only [CA,Option.map,HB]at hs ⊢;exact h.arg hg hs
theorem eT {P:Program} {F:Fr} {st:St} {a:Act} {w:World} {G:Bj} (h:R F st a w G) {g:Bool} (hg:g=true) {o:Oper} (hs:(rd P st g o.op).1):
 ∃ v,Ak w G (rd P st g o.op).2 v∧ ∀ w',Fy w w'→(execOp a.eval o).run P w'= .ok (.value v) w':=by
 cases ho:o.op<;>simp only [rd,ho,bnd]at hs ⊢ <;>try (exact hs.elim)
 case move x=>exact⟨_,h.arg hg hs,fun w' _=>by simp [execOp,ho]⟩
 case assign x=>exact⟨_,h.arg hg hs,fun w' _=>by simp [execOp,ho]⟩
 case pick c x y=>
  obtain⟨h1,h2⟩:=hs
  have hc:=h.arg hg h1
  split at h2
  ·rename_i q hq
   rw [hq]at hc
   simp only [Ak,Ap]at hc
   unfold V4 at h2 ⊢
   split at h2
   ·rename_i ca qa cb qb e1 e2
    cases q with
    | true=>
      have:=V5 e1 (h.ev x) (h2.1 rfl)
      exact⟨.bool qa,by simp [Ak,Ap],fun w' _=>by simp [execOp,ho,hc,asBool,this]⟩
    | false=>
      have:=V5 e2 (h.ev y) (h2.2 rfl)
      exact⟨.bool qb,by simp [Ak,Ap],fun w' _=>by simp [execOp,ho,hc,asBool,this]⟩
   ·exact h2.elim
  ·exact h2.elim
 case load t x=>
  obtain⟨v,q1,q2⟩:=L6 (P:=P) h (h.arg hg hs.1) hs.2
  exact⟨v,q1,fun w' hw'=>by simp [execOp,ho,q2 w' hw']⟩
 case nilCheck x=>
  obtain⟨h1,h2⟩:=hs
  have hx:=h.arg hg h1
  unfold U4 at h2 ⊢
  split at h2
  ·rename_i id off e
   rw [e]at hx
   simp only [Ak,Ap]at hx ⊢
   obtain⟨b,hb,hv⟩:=hx
   exact⟨_,⟨b,hb,rfl⟩,fun w' _=>by simp [execOp,ho,hv]⟩
  ·rename_i cs off e
   rw [e]at hx
   simp only [Ak,Ap]at hx ⊢
   obtain⟨hp,b,o',hv,k1⟩:=hx
   exact⟨_,⟨hp,b,o',rfl,k1⟩,fun w' _=>by simp [execOp,ho,hv]⟩
  ·rename_i f e
   rw [e]at hx
   simp only [Ak,Ap]at hx ⊢
   exact⟨_,rfl,fun w' _=>by simp [execOp,ho,hx]⟩
  ·rename_i f cs e
   rw [e]at hx
   simp only [Ak,Ap]at hx ⊢
   obtain⟨arr,hv,hr⟩:=hx
   exact⟨_,⟨arr,rfl,hr⟩,fun w' _=>by simp [execOp,ho,hv]⟩
  ·rename_i f cs e
   rw [e]at hx
   simp only [Ak,Ap]at hx ⊢
   obtain⟨arr,hv,hr⟩:=hx
   exact⟨_,⟨arr,rfl,hr⟩,fun w' _=>by simp [execOp,ho,hv]⟩
  ·exact h2.elim
 case binOp op t x y t'=>
  obtain⟨v,q1,q2⟩:=jz (P:=P) (ox:=x) (oy:=y) (h.arg hg hs.1) (h.arg hg hs.2.1) hs.2.2
  refine⟨v,q1,fun w' hw'=>?_⟩
  have:=q2 w'
  simp only [execOp,ho,Sem.run_bind]at this ⊢
  rw [this];rfl
 case unOp op t x=>
  obtain⟨v,q1,q2⟩:=nX (P:=P) (h.arg hg hs.1) hs.2
  exact⟨v,q1,fun w' hw'=>by simp [execOp,ho,q2 w']⟩
 case convert src dst x=>
  obtain⟨v,q1,q2⟩:=eQ (P:=P) h (h.arg hg hs.1) hs.2
  exact⟨v,q1,fun w' hw'=>by simp [execOp,ho,q2 w' hw']⟩
 case slice t x lo hi mx=>
  cases mx with
  | some _=>exact hs.elim
  | none=>
    simp only [bnd]at hs ⊢
    obtain⟨v,q1,q2⟩:=bX (P:=P) (h.arg hg hs.1) (V6 h hg hs.2.1) (V6 h hg hs.2.2.1) hs.2.2.2
    exact⟨v,q1,fun w' hw'=>by simp [execOp,ho,q2 w']⟩
 case fieldAddr s x f=>
  obtain⟨v,q1,q2⟩:=RX (P:=P) (h.arg hg hs.1) hs.2
  exact⟨v,q1,fun w' hw'=>by simp [execOp,ho,q2 w']⟩
 case field s x f=>
  obtain⟨v,q1,q2⟩:=bV (P:=P) (h.arg hg hs.1) hs.2
  exact⟨v,q1,fun w' hw'=>by simp [execOp,ho,q2 w']⟩
 case indexAddr t x i=>
  obtain⟨v,q1,q2⟩:=RY (P:=P) h (h.arg hg hs.1) (h.arg hg hs.2.1) hs.2.2
  exact⟨v,q1,fun w' hw'=>by simp [execOp,ho,q2 w']⟩
 case index t x i=>
  obtain⟨v,q1,q2⟩:=bW (P:=P) (h.arg hg hs.1) (h.arg hg hs.2.1) hs.2.2
  exact⟨v,q1,fun w' hw'=>by simp [execOp,ho,q2 w']⟩
 case extract x i=>
  obtain⟨h1,h2⟩:=hs
  have hx:=h.arg hg h1
  unfold nZ at h2 ⊢
  split at h2
  ·rename_i vs e
   rw [e]at hx
   simp only [Ak]at hx
   obtain⟨arr,hv,hr⟩:=hx
   obtain⟨v,q1,q2⟩:=JP hr i h2
   have q1':arr[i]? =some v:=by simpa using q1
   exact⟨v,q2,fun w' _=>by simp [execOp,ho,hv,Instr.extract,q1']⟩
  ·exact h2.elim
 case call c=>
  split at hs
  ·rename_i b hcal
   unfold O5 at hs ⊢
   split at hs
   ·rename_i x t hxs hts
    have ea:c.args= #[x]:=by apply Array.ext';simpa using hxs
    have et:c.argTypes= #[t]:=by apply Array.ext';simpa using hts
    obtain⟨v,q1,q2⟩:=jB (P:=P) (ty:=o.type) h (h.arg hg hs.1) hs.2
    refine⟨v,q1,fun w' _=>?_⟩
    simp [execOp,ho,resolve,hcal,ea,et,invoke,builtin,q2 w']
   ·rename_i xs ts hxs
    obtain⟨v,q1,q2⟩:=jE (P:=P) (ts:=c.argTypes) (ty:=o.type) (us:=c.args.map a.eval) (by simpa using h.args hg hs.1) hs.2
    exact⟨v,q1,fun w' _=>by simp [execOp,ho,resolve,hcal,invoke,builtin,q2 w']⟩
   ·obtain⟨v,q1,q2⟩:=jF (P:=P) (ts:=c.argTypes) (ty:=o.type) (us:=c.args.map a.eval) (by simpa using h.args hg hs.1) hs.2
    exact⟨v,q1,fun w' _=>by simp [execOp,ho,resolve,hcal,invoke,builtin,q2 w']⟩
   ·exact hs.elim
  ·exact hs.elim
end Go.PL
namespace Go.PL
open Go Go.RowKit
def Gk (id:AC) (c:C):C:=if c.men id then .any else c
def Gl (id:AC) (v:V):V:=if v.men id then .undef else v
def AM.kill (id:AC) (e:AM):AM:=match e with
 | ⟨i,r,cs,true⟩=>⟨i,r,cs,true⟩
 | ⟨i,r,cs,false⟩=>⟨i,r,cs.map (Gk id),false⟩
theorem AM.kill_id (id:AC) (e:AM):(e.kill id).id =e.id:=by obtain⟨i,r,cs,_ | _⟩:=e<;>rfl
theorem AM.kill_row (id:AC) (e:AM):(e.kill id).row =e.row:=by obtain⟨i,r,cs,_ | _⟩:=e<;>rfl
def St.kill (st:St) (id:AC):St:={tm:=st.tm.map (Gl id),so:=(st.so.filter (fun e=>e.id != id&& !(EX id&&JM e.id))).map (AM.kill id),gh:=st.gh.map (Gl id),pre:=st.pre}
def ZG (e:AM) (l:List AM):List AM:=match EX e.id||JM e.id with
 | true=>l
 | false=>e::l
def St.new (st:St) (e:AM):St:={tm:=(st.kill e.id).tm,so:=ZG (e.kill e.id) (st.kill e.id).so,gh:=(st.kill e.id).gh,pre:=st.pre}
theorem RZ {e x:AM} {l:List AM} (h:x∈ZG e l):x=e∧EX e.id=false∧JM e.id=false∨x∈l:=by
 unfold ZG at h
 split at h
 ·exact .inr h
 ·rename_i hq
  rcases List.mem_cons.1 h with h | h
  ·exact .inl ⟨h,by simpa using hq⟩
  ·exact .inr h
def CX (F:Fr) (G:Bj) (id:AC) (b:Option Nat) (v:Option Value):Bj where
 blk:=fun i=>if i=id then b else G.blk i
 own:=fun i=>if i=id then v else G.own i
 wr:=fun x=>F.av x∨ ∃ i,(if i=id then b else G.blk i)=some x
theorem n7 (id:AC) (c:C):(Gk id c).men id=false:=by
 unfold Gk;split
 ·simp [C.men]
 ·simp_all
theorem ZH (id:AC) (v:V):(Gl id v).men id=false:=by
 unfold Gl;split
 ·simp [V.men]
 ·simp_all
theorem R3 (id:AC): ∀ cs:List C,Ck id (cs.map (Gk id))=false
 | []=>by simp [Ck]
 | c::cs=>by simp [Ck,n7,R3 id cs]
theorem n8 {w:World} {G:Bj} {id:AC} {c:C} {v:Value} (h:Ap w G c v):Ap w G (Gk id c) v:=by
 unfold Gk;split
 ·simp only [Ap];exact h.one
 ·exact h
theorem R4 {w:World} {G:Bj} {id:AC}: ∀ {cs:List C} {vs:List Value},At w G cs vs→At w G (cs.map (Gk id)) vs
 | [],[],_=>by simp [At]
 | [],_::_,h=>by simp [At]at h
 | _::_,[],h=>by simp [At]at h
 | c::cs,v::vs,h=>by
   simp only [At]at h
   simp only [List.map_cons,At]
   exact⟨n8 h.1,R4 h.2⟩
theorem TU {w:World} {G:Bj} {id:AC} {cs:List C} {b o:Nat} (h:Au w G cs b o):Au w G (cs.map (Gk id)) b o:=by
 obtain⟨vs,h1,h2⟩:=h.list
 exact Au.of_list (R4 h1) h2
theorem ZI {w:World} {G:Bj} {id:AC} {x:V} {v:Value} (h:Ak w G x v):Ak w G (Gl id x) v:=by
 unfold Gl;split
 ·simp only [Ak]
 ·exact h
theorem V7 {w:World} {G:Bj} {id:AC}: ∀ {xs:List V} {vs:List Value},AJ w G xs vs→AJ w G (xs.map (Gl id)) vs
 | [],_,h=>by simpa [AJ] using h
 | x::xs,vs,h=>by
   simp only [AJ]at h
   obtain⟨v,r,e,h1,h2⟩:=h
   simp only [List.map_cons,AJ]
   exact⟨v,r,e,ZI h1,V7 h2⟩
theorem V8 (id:AC): ∀ xs:List V,Jk id (xs.map (Gl id))=false
 | []=>by simp [Jk]
 | x::xs=>by simp [Jk,ZH,V8 id xs]
theorem n9 {w:World} {G:Bj} {id:AC} {e:AM} (h:BQ w G e):BQ w G (e.kill id):=by
 obtain⟨i,r,cs,pu⟩:=e
 cases pu with
 | true=>exact h
 | false=>
 unfold BQ at *
 simp only [AM.kill]
 simp only at h
 split at h
 ·obtain⟨b,h1,h2⟩:=h
  refine⟨b,h1,?_⟩
  rcases h2 with ⟨kv,es,rfl,h2⟩ | ⟨T,cur,h2,h3,h4⟩
  ·exact .inl ⟨kv,es,by simp [Gk,C.men],h2⟩
  ·exact .inr ⟨T,cur,h2,by simpa using h3,TU h4⟩
 ·obtain⟨hl,v,h1,h2⟩:=h
  refine⟨by simpa using hl,v,h1,?_⟩
  rcases h2 with h2 | ⟨b,cap,cur,e1,e2,e3,e4,e5,e6,e7⟩
  ·exact .inl h2
  ·exact .inr ⟨b,cap,cur,e1,e2,e3,e4,e5,e6,TU e7⟩
theorem ZJ {id:AC} {e:AM} (h:e.pu=true→AH e.cs=true):(e.kill id).pu =true→AH (e.kill id).cs =true:=by
 obtain⟨i,r,cs,pu⟩:=e
 cases pu with
 | true=>exact h
 | false=>intro hq;cases hq
theorem pY {id:AC} {e:AM} (h:e.pu=true→AH e.cs=true):Ck id (e.kill id).cs =false:=by
 obtain⟨i,r,cs,pu⟩:=e
 cases pu with
 | true=>exact By id cs (h rfl)
 | false=>exact R3 id cs
theorem CY {w w':World} {G G':Bj} (hk:EW G G' w w') {e:AM} (ha:LB (fun id=>Ck id e.cs=true) G G') (hid:G'.blk e.id=G.blk e.id∧G'.own e.id=G.own e.id)
 (hb: ∀ b,G.blk e.id=some b→w'.heap[b]? =w.heap[b]?) (h:BQ w G e):BQ w' G' e:=by
 unfold BQ at *
 split at h
 ·obtain⟨b,h1,h2⟩:=h
  refine⟨b,by rw [hid.1];exact h1,?_⟩
  rcases h2 with ⟨kv,es,h2,h3,h4⟩ | ⟨T,cur,h2,h3,h4⟩
  ·exact .inl ⟨kv,es,h2,by rw [hb b h1];exact h3,h4⟩
  ·exact .inr ⟨T,cur,by rw [hb b h1];exact h2,h3,Au.mono hk _ _ _ ha (fun o=>cell?_of_block' (hb b h1) o) h4⟩
 ·obtain⟨hl,v,h1,h2⟩:=h
  refine⟨hl,v,by rw [hid.2];exact h1,?_⟩
  rcases h2 with ⟨p,e1,e2,e3⟩ | ⟨b,cap,cur,e1,e2,e3,e4,e5,e6,e7⟩
  ·exact .inl ⟨p,e1,e2,by rw [hid.1];exact e3⟩
  ·exact .inr ⟨b,cap,cur,e1,by rw [hid.1];exact e2,by rw [hb b e2];exact e3,e4,e5,e6,Au.mono hk _ _ _ ha (fun o=>cell?_of_block' (hb b e2) o) e7⟩
theorem EY.mono {w w':World} {G G':Bj} (hk:EW G G' w w') {e:AM} (hid:G'.blk e.id=G.blk e.id∧G'.own e.id=G.own e.id) (hmk: ∀ k,G'.blk (Cw k e.id)=G.blk (Cw k e.id)∧G'.own (Cw k e.id)=G.own (Cw k e.id))
 (hb: ∀ b,G.blk e.id=some b→w'.heap[b]? =w.heap[b]?) (hbm: ∀ k b,G.blk (Cw k e.id)=some b→w'.heap[b]? =w.heap[b]?) (h:EY w G e):EY w' G' e:=fun k E n len cs q=>by
 obtain⟨h1,h2,b,v,h3,h4,h5⟩:=h k E n len cs q
 refine⟨h1,CY hk (e:=⟨Cw k e.id,some (E,n,len),cs,true⟩) (fun i hi=>absurd (show Ck i cs=true from hi) (by rw [By i cs h1];simp)) (hmk k) (hbm k) h2,b,v,by rw [hid.1];exact h3,?_,by rw [(hmk k).2];exact h5⟩
 rw [cell?_of_block' (hb b h3)];exact h4
theorem BX.mono {w w':World} {G G':Bj} (hk:EW G G' w w') {e:AM} (hid:G'.blk e.id=G.blk e.id∧G'.own e.id=G.own e.id) (hmk:JM e.id=true→ ∀ k,G'.blk (Cw k e.id)=G.blk (Cw k e.id)∧G'.own (Cw k e.id)=G.own (Cw k e.id))
 (hb: ∀ b,G.blk e.id=some b→w'.heap[b]? =w.heap[b]?) (hbm:JM e.id=true→ ∀ k b,G.blk (Cw k e.id)=some b→w'.heap[b]? =w.heap[b]?) (h:BX w G e):BX w' G' e:=
 ⟨h.1,fun hd=>⟨(h.2 hd).1,(h.2 hd).2.1,(h.2 hd).2.2.mono hk hid (hmk hd) hb (hbm hd)⟩⟩
theorem BX.kill {w:World} {G:Bj} {e:AM} {id:AC} (h:BX w G e):BX w G (e.kill id):=by
 obtain⟨i,r,cs,pu⟩:=e
 cases pu with
 | true=>exact h
 | false=>exact⟨h.1,fun hd=>absurd (h.2 hd).1 (by simp)⟩
theorem BX.triv {w:World} {G:Bj} {e:AM} (h1:EX e.id=false) (h2:JM e.id=false):BX w G e:=⟨h1,fun hd=>by rw [h2]at hd;cases hd⟩
theorem IK {st:St} {f:V→V} (hf:f .undef = .undef) (i:Nat):(st.tm.map f).getD i .undef =f (st.tm.getD i .undef):=by
 simp only [List.getD_eq_getElem?_getD,List.getElem?_map]
 cases st.tm[i]? <;>simp [hf]
structure PX (w w':World):Prop where
 os:w'.os=w.os
 tape:w'.tape=w.tape
 output:w'.output=w.output
theorem R.rename {F:Fr} {st:St} {a:Act} {w w':World} {G:Bj} (h:R F st a w G) (id:AC) (nb:Option Nat) (nv:Option Value)
 (ho:PX w w') (hs:w.heap.size≤w'.heap.size)
 (hext: ∀ b,b<F.w0.heap.size→ ¬F.old b→w'.heap[b]? =w.heap[b]?)
 (hn: ∀ b,nb=some b→(w.heap.size≤b∨G.blk id=some b)∧b<w'.heap.size) (st':St)
 (htm:st'.tm.length=st.tm.length) (hsl: ∀ i,Ak w' (CX F G id nb nv) (st'.tm.getD i .undef) (a.tmps.getD i Go.undef))
 (hgh:AJ w' (CX F G id nb nv) st'.gh F.gv) (hpu: ∀ e∈st'.so,e.pu=true→AH e.cs=true) (hso: ∀ e∈st'.so,BQ w' (CX F G id nb nv) e) (hdp: ∀ e∈st'.so,BX w' (CX F G id nb nv) e) (hnd:(st'.so.map (·.id)).Nodup):R F st' a w' (CX F G id nb nv) where
 dfr:=h.dfr
 size:=by rw [htm];exact h.size
 slots:=hsl
 ghosts:=hgh
 pures:=hpu
 store:=hso
 deep:=hdp
 nodup:=hnd
 inj:=by
  intro i j b hi hj
  simp only [CX]at hi hj
  split at hi<;>split at hj
  ·simp_all
  ·rename_i q1 q2
   rcases (hn b hi).1 with q | q
   ·exact absurd (h.lt j b hj) (by omega)
   ·exact absurd (h.inj j id b hj q) q2
  ·rename_i q1 q2
   rcases (hn b hj).1 with q | q
   ·exact absurd (h.lt i b hi) (by omega)
   ·exact absurd (h.inj i id b hi q) q1
  ·exact h.inj i j b hi hj
 lt:=by
  intro i b hi
  simp only [CX]at hi
  split at hi
  ·exact(hn b hi).2
  ·exact Nat.lt_of_lt_of_le (h.lt i b hi) hs
 new:=by
  intro i b hi
  simp only [CX]at hi
  split at hi
  ·rcases (hn b hi).1 with q | q
   ·exact .inl (Nat.le_trans h.hsize q)
   ·exact h.new id b q
  ·exact h.new i b hi
 wr:=fun b=>Iff.rfl
 avlt:=h.avlt
 inv:=h.inv
 avold:=h.avold
 os:=ho.os.trans h.os
 tape:=ho.tape.trans h.tape
 output:=ho.output.trans h.output
 hsize:=Nat.le_trans h.hsize hs
 ext:=fun b hb hold=>(hext b hb hold).trans (h.ext b hb hold)
theorem R.keeps {F:Fr} {st:St} {a:Act} {w w':World} {G:Bj} (h:R F st a w G) (id:AC) (nb:Option Nat) (nv:Option Value)
 (hs:w.heap.size≤w'.heap.size) (hblk: ∀ b,b<w.heap.size→(G.blk id ≠ some b)→w'.heap[b]? =w.heap[b]?)
 (hn: ∀ b,nb=some b→w.heap.size≤b∨(G.blk id=some b∧DI w w' b)):EW G (CX F G id nb nv) w w' where
 size:=hs
 block:=fun b hb hw=>hblk b hb (fun he=>hw ((h.wr b).2 (.inr ⟨id,he⟩)))
 wr:=by
  intro b hb hw
  simp only [CX]at hw
  rw [h.wr]
  rcases hw with hw | ⟨i,hi⟩
  ·exact .inl hw
  ·split at hi
   ·rcases hn b hi with q | q
    ·omega
    ·exact .inr ⟨id,q.1⟩
   ·exact .inr ⟨i,hi⟩
 ty:=by
  intro i b h1 h2
  have hb:=h.lt i b h1
  simp only [CX]at h2
  split at h2
  ·rcases hn b h2 with q | q
   ·omega
   ·exact q.2
  ·rename_i hne
   exact DI.same (hblk b hb (fun q=>hne (h.inj _ _ b h1 q)))
theorem EL {F:Fr} {G:Bj} {id:AC} {nb:Option Nat} {nv:Option Value} {S:AC→Prop} (hS: ∀ i,S i→i ≠ id):LB S G (CX F G id nb nv):=
 fun i hi=>by simp [CX,hS i hi]
theorem R.set {F:Fr} {st:St} {a:Act} {w w':World} {G:Bj} (h:R F st a w G) (e:AM) (nb:Option Nat) (nv:Option Value)
 (ho:PX w w') (hs:w.heap.size≤w'.heap.size) (hblk: ∀ b,b<w.heap.size→(G.blk e.id ≠ some b)→w'.heap[b]? =w.heap[b]?)
 (hext: ∀ b,b<F.w0.heap.size→ ¬F.old b→w'.heap[b]? =w.heap[b]?)
 (hn: ∀ b,nb=some b→(w.heap.size≤b∨(G.blk e.id=some b∧DI w w' b))∧b<w'.heap.size) (hp:e.pu=true→AH e.cs=true) (he:BQ w' (CX F G e.id nb nv) (e.kill e.id)):R F (st.new e) a w' (CX F G e.id nb nv):=by
 have hk:=h.keeps e.id nb nv hs hblk (fun b hb=>(hn b hb).1)
 refine h.rename e.id nb nv ho hs hext (fun b hb=>⟨(hn b hb).1.imp id And.left,(hn b hb).2⟩) (st.new e) (by simp [St.new,St.kill]) ?_ ?_ ?_ ?_ ?_ ?_
 ·intro i
  simp only [St.new,St.kill]
  rw [IK (by simp [Gl,V.men])]
  exact Ak.mono hk _ _ (EL (fun i hi he'=>by subst he';rw [ZH]at hi;cases hi)) (ZI (h.slots i))
 ·simp only [St.new,St.kill]
  exact AJ.mono hk _ _ (EL (fun i hi he'=>by subst he';rw [V8]at hi;cases hi)) (V7 h.ghosts)
 ·intro e' he'
  simp only [St.new,St.kill]at he'
  rcases RZ he' with ⟨rfl,_⟩ | he'
  ·exact ZJ hp
  ·simp only [List.mem_map,List.mem_filter]at he'
   obtain⟨d,⟨hd,hne⟩,rfl⟩:=he'
   exact ZJ (h.pures d hd)
 ·intro e' he'
  simp only [St.new,St.kill]at he'
  rcases RZ he' with ⟨rfl,_⟩ | he'
  ·exact he
  ·simp only [List.mem_map,List.mem_filter,Bool.and_eq_true]at he'
   obtain⟨d,⟨hd,hne,_⟩,rfl⟩:=he'
   have hne':d.id ≠ e.id:=by simpa using hne
   refine CY hk (EL (fun i hi he'=>by subst he';rw [pY (h.pures d hd)]at hi;cases hi)) (by simp [CX,AM.kill_id,hne']) ?_ (n9 (h.store d hd))
   intro b hb
   rw [AM.kill_id]at hb
   exact hblk b (h.lt _ b hb) (fun q=>hne' (h.inj _ _ b hb q))
 ·intro e' he'
  simp only [St.new,St.kill]at he'
  rcases RZ he' with ⟨rfl,h1,h2⟩ | he'
  ·exact BX.triv h1 h2
  ·simp only [List.mem_map,List.mem_filter,Bool.and_eq_true]at he'
   obtain⟨d,⟨hd,hne,hmd⟩,rfl⟩:=he'
   have hne':d.id ≠ e.id:=by simpa using hne
   have hmk:JM (d.kill e.id).id =true→ ∀ k,Cw k (d.kill e.id).id ≠ e.id:=by
    intro hq k hk2
    rw [AM.kill_id]at hq hk2
    rw [←hk2,pV,hq]at hmd
    cases hmd
   refine BX.mono hk (by simp [CX,AM.kill_id,hne']) (fun hq k=>by simp [CX,hmk hq k]) ?_ (fun hq k b hb=>hblk b (h.lt _ b hb) (fun q=>hmk hq k (h.inj _ _ b hb q))) (h.deep d hd).kill
   intro b hb
   rw [AM.kill_id]at hb
   exact hblk b (h.lt _ b hb) (fun q=>hne' (h.inj _ _ b hb q))
 ·have hsub:List.Sublist (((st.new e).so.map (·.id))) (e.id::((st.so.filter (fun d=>d.id != e.id&& !(EX e.id&&JM d.id))).map (·.id))):=by
   simp only [St.new,St.kill,ZG]
   split
   ·simp only [List.map_map,Function.comp_def,AM.kill_id]
    exact List.Sublist.cons _ (List.Sublist.refl _)
   ·simp only [List.map_cons,List.map_map,Function.comp_def,AM.kill_id]
    exact List.Sublist.refl _
  refine List.Sublist.nodup hsub (List.nodup_cons.2 ⟨by simp;exact fun x _ h _=>h,?_⟩)
  exact List.Sublist.nodup (List.Sublist.map (fun d:AM=>d.id) List.filter_sublist) h.nodup
theorem R.put {F:Fr} {st:St} {a:Act} {w:World} {G:Bj} (h:R F st a w G) {d:Option Nat} {x:V} {v:Value} (hx:Ak w G x v):R F (st.put d x) (a.put d v) w G:=by
 cases d with
 | none=>exact h
 | some d=>
   exact {
    dfr:=h.dfr
    size:=by simp [St.put,Act.put,h.size]
    slots:=by
     intro i
     simp only [St.put,Act.put]
     by_cases hi:i=d
     ·subst hi
      by_cases hl:i<st.tm.length
      ·simp [List.getD_eq_getElem?_getD,hl,h.size,hx]
      ·simp [List.getD_eq_getElem?_getD,hl,Ak]
     ·have h1:(st.tm.set d x).getD i .undef =st.tm.getD i .undef :=by
       simp [List.getD_eq_getElem?_getD,List.getElem?_set,Ne.symm hi]
      have h2:(a.tmps.setIfInBounds d v).getD i Go.undef=a.tmps.getD i Go.undef:=by
       simp [Array.getD_eq_getD_getElem?,Array.getElem?_setIfInBounds,Ne.symm hi]
      rw [h1,h2];exact h.slots i
    ghosts:=by simpa [St.put] using h.ghosts
    store:=h.store,deep:=h.deep,pures:=h.pures,nodup:=h.nodup,inj:=h.inj,lt:=h.lt,new:=h.new,wr:=h.wr,avlt:=h.avlt,inv:=h.inv,avold:=h.avold,os:=h.os,tape:=h.tape,output:=h.output,hsize:=h.hsize,ext:=h.ext}
theorem R.same {F:Fr} {st:St} {a:Act} {w w':World} {G:Bj} (h:R F st a w G) (ho:PX w w') (hs:Fy w w'):R F st a w' G:=by
 have hk:EW G G w w':=⟨hs.size,fun b hb _=>hs.block b hb,fun b _ h=>h,fun i b h1 _=>DI.same (hs.block b (h.lt i b h1))⟩
 exact {
  dfr:=h.dfr,size:=h.size
  slots:=fun i=>Ak.mono hk _ _ (fun _ _=>⟨rfl,rfl⟩) (h.slots i)
  ghosts:=AJ.mono hk _ _ (fun _ _=>⟨rfl,rfl⟩) h.ghosts
  store:=fun e he=>CY hk (fun _ _=>⟨rfl,rfl⟩) ⟨rfl,rfl⟩ (fun b hb=>hs.block b (h.lt _ b hb)) (h.store e he)
  deep:=fun e he=>BX.mono hk ⟨rfl,rfl⟩ (fun _ _=>⟨rfl,rfl⟩) (fun b hb=>hs.block b (h.lt _ b hb)) (fun _ k b hb=>hs.block b (h.lt _ b hb)) (h.deep e he)
  pures:=h.pures
  nodup:=h.nodup,inj:=h.inj
  lt:=fun i b hb=>Nat.lt_of_lt_of_le (h.lt i b hb) hs.size
  new:=h.new,wr:=h.wr,avlt:=h.avlt,inv:=h.inv,avold:=h.avold
  os:=ho.os.trans h.os,tape:=ho.tape.trans h.tape,output:=ho.output.trans h.output
  hsize:=Nat.le_trans h.hsize hs.size
  ext:=fun b hb hold=>(hs.block b (Nat.lt_of_lt_of_le hb h.hsize)).trans (h.ext b hb hold)}
end Go.PL
namespace Go.PL
open Go Go.RowKit
theorem bY {w:World} {o:Obj} {b:Nat} (h:b<w.heap.size):(w.heap.push o)[b]? =w.heap[b]? :=by
 rw [Array.getElem?_push];split
 ·omega
 ·rfl
theorem EB (w:World) (o:Obj):(w.alloc o).heap =w.heap.push o:=rfl
theorem TV (w:World) (o:Obj):PX w (w.alloc o):=⟨rfl,rfl,rfl⟩
theorem V9 (w:World) (o:Obj):Fy w (w.alloc o):=⟨by simp [EB],fun b hb=>by rw [EB];exact bY hb⟩
theorem Jm {F:Fr} {st:St} {a:Act} {w w':World} {G:Bj} (h:R F st a w G) {id:AC} {nb:Option Nat} {nv:Option Value} (hk:EW G (CX F G id nb nv) w w')
 {cs:List C} {vs:List Value} {row:Option (TypeId×Nat×Nat)} {pu:Bool} (hp:pu=true→AH cs=true) (hr:At w G cs vs):At w' (CX F G id nb nv) (AM.kill id ⟨id,row,cs,pu⟩).cs vs:=by
 cases pu with
 | true=>exact At.mono hk _ _ (EL (fun i hi he'=>by subst he';have:=By i cs (hp rfl);simp only [AM.kill]at hi;rw [this]at hi;cases hi)) hr
 | false=>exact At.mono hk _ _ (EL (fun i hi he'=>by subst he';simp only [AM.kill]at hi;rw [R3]at hi;cases hi)) (R4 hr)
theorem PY {id:AC} {row:Option (TypeId×Nat×Nat)} {cs:List C} {pu:Bool}:(AM.kill id ⟨id,row,cs,pu⟩).cs.length =cs.length:=by cases pu<;>simp [AM.kill]
theorem pZ {w:World} {G:Bj} {e:AM} (hrow:e.row=none) (h: ∃ b T cur,G.blk e.id=some b∧w.heap[b]? =some (.cells cur T (0,0))∧cur.size=e.cs.length∧Au w G e.cs b 0):BQ w G e:=by
 unfold BQ;rw [hrow]
 obtain⟨b,T,cur,h1,h2⟩:=h
 exact⟨b,h1, .inr ⟨T,cur,h2⟩⟩
theorem Wa {w:World} {G:Bj} {e:AM} {E n len:Nat} (hrow:e.row=some (E,n,len)) (h:e.cs.length=len*n∧ ∃ v,G.own e.id=some v∧
 ((∃ p,v= .slice p 0 0∧len=0∧G.blk e.id=none)∨
  ∃ b cap cur,v= .slice (some ⟨b,0,none⟩) len cap∧G.blk e.id=some b∧w.heap[b]? =some (.cells cur E (0,0))∧len≤cap∧cap≤maxLen∧cur.size=cap*n∧Au w G e.cs b 0)):BQ w G e:=by
 unfold BQ;rw [hrow];exact h
theorem Ou (w:World) (cur:Array Value) (T:TypeId):(w.alloc (.cells cur T)).rangeAt w.heap.size 0 cur.toList:=by
 intro j v hv
 simp only [World.cell?,EB]
 simp at hv
 simp [hv]
theorem R.box {F:Fr} {st:St} {a:Act} {w:World} {G:Bj} (h:R F st a w G) (id:AC) (T:TypeId) (cs:List C) (cur:Array Value) (hr:At w G cs cur.toList) (pu:Bool) (hp:pu=true→AH cs=true):
 R F (st.new ⟨id,none,cs,pu⟩) a (w.alloc (.cells cur T)) (CX F G id (some w.heap.size) none):=by
 have hsame:=V9 w (.cells cur T)
 refine h.set ⟨id,none,cs,pu⟩ (some w.heap.size) none (TV _ _) hsame.size (fun b hb _=>hsame.block b hb) (fun b hb _=>hsame.block b (Nat.lt_of_lt_of_le hb h.hsize)) ?_ hp ?_
 ·intro b hb;injection hb with hb;subst hb;exact⟨.inl (Nat.le_refl _),by simp [EB]⟩
 ·refine pZ (AM.kill_row _ _) ⟨w.heap.size,T,cur,by simp [CX,AM.kill_id],by simp [EB],by rw [PY];simpa using hr.length.symm,?_⟩
  exact Au.of_list (Jm h (h.keeps id _ _ hsame.size (fun b hb _=>hsame.block b hb) (fun b hb=> .inl (by injection hb with hb;omega))) hp hr) (Ou w cur T)
theorem R.row {F:Fr} {st:St} {a:Act} {w:World} {G:Bj} (h:R F st a w G) (id:AC) (T n len cap:Nat) (cs:List C) (cur:Array Value) (vs:List Value) (hr:At w G cs vs) (hp:cur.toList.take vs.length=vs)
 (hl:cs.length=len*n) (hc:cur.size=cap*n) (hlc:len≤cap) (hm:cap≤maxLen) (pu:Bool) (hp':pu=true→AH cs=true):
 R F (st.new ⟨id,some (T,n,len),cs,pu⟩) a (w.alloc (.cells cur T)) (CX F G id (some w.heap.size) (some (.slice (some ⟨w.heap.size,0,none⟩) len cap))):=by
 have hsame:=V9 w (.cells cur T)
 refine h.set ⟨id,some (T,n,len),cs,pu⟩ (some w.heap.size) _ (TV _ _) hsame.size (fun b hb _=>hsame.block b hb) (fun b hb _=>hsame.block b (Nat.lt_of_lt_of_le hb h.hsize)) ?_ hp' ?_
 ·intro b hb;injection hb with hb;subst hb;exact⟨.inl (Nat.le_refl _),by simp [EB]⟩
 ·refine Wa (AM.kill_row _ _) ⟨by rw [PY];exact hl,_,by simp only [CX,AM.kill_id,if_true], .inr ⟨w.heap.size,cap,cur,rfl,by simp [CX,AM.kill_id],by simp [EB],hlc,hm,hc,?_⟩⟩
  refine Au.of_list (Jm h (h.keeps id _ _ hsame.size (fun b hb _=>hsame.block b hb) (fun b hb=> .inl (by injection hb with hb;omega))) hp' hr) ?_
  intro j v hv
  refine Ou w cur T j v ?_
  rw [←hp,List.getElem?_take]at hv
  split at hv
  ·exact hv
  ·cases hv
theorem R.clipRow {F:Fr} {st:St} {a:Act} {w:World} {G:Bj} (h:R F st a w G) (id:AC) (T n:Nat) (p:Option Addr):
 R F (st.new ⟨id,some (T,n,0),[],true⟩) a w (CX F G id none (some (.slice p 0 0))):=by
 refine h.set ⟨id,some (T,n,0),[],true⟩ none _ ⟨rfl,rfl,rfl⟩ (Nat.le_refl _) (fun _ _ _=>rfl) (fun _ _ _=>rfl) (fun b hb=>by cases hb) (fun _=>rfl) ?_
 simp only [BQ,AM.kill]
 exact⟨by simp, .slice p 0 0,by simp [CX], .inl ⟨p,rfl,trivial,by simp [CX]⟩⟩
theorem R.nilRow {F:Fr} {st:St} {a:Act} {w:World} {G:Bj} (h:R F st a w G) (id:AC) (T n:Nat):
 R F (st.new ⟨id,some (T,n,0),[],true⟩) a w (CX F G id none (some (.slice none 0 0))):=h.clipRow id T n none
def V.cells:V→Option (List C)
 | .c x=>some [x]
 | .agg cs=>some cs
 | _=>none
theorem HC {w:World} {G:Bj} {x:V} {v:Value} {cs:List C} (h:Ak w G x v) (hc:x.cells=some cs):At w G cs v.cells.toList:=by
 unfold V.cells at hc
 split at hc
 ·injection hc with hc;subst hc
  simp only [Ak]at h
  have:=h.one
  have e:v.cells= #[v]:=by
   cases v<;>simp_all [Value.cells,Value.oneCell']
  rw [e]
  simpa [At] using h
 ·injection hc with hc;subst hc
  simp only [Ak]at h
  obtain⟨arr,rfl,hr⟩:=h
  simpa [Value.cells] using hr
 ·cases hc
def L8 (P:Program) (t:TypeId):Option (List C):=
 match P.info? t with
 | some i=>match i.zero with
   | some z=>Em z.cells.toList
   | none=>none
 | none=>none
theorem Wb {P:Program} {t:TypeId} {cs:List C} (h:L8 P t=some cs): ∃ i z,P.info? t=some i∧i.zero=some z∧Em z.cells.toList=some cs:=by
 unfold L8 at h
 split at h
 ·rename_i i hi
  split at h
  ·rename_i z hz;exact⟨i,z,hi,hz,h⟩
  ·cases h
 ·cases h
theorem run_zeroValue' {P:Program} {t:TypeId} {i:TypeInfo} {z:Value} (hi:P.info? t=some i) (hz:i.zero=some z) (w:World):(zeroValue t).run P w= .ok z w:=by
 simp [zeroValue,typeInfo,program,Sem.run,hi,hz]
def HD (place:Nat→Option (Nat×Nat)) (cells:List C):List (Nat×V)→Option (List C)
 | []=>some cells
 | (i,v)::rest=>match place i,v.cells with
   | some (off,size),some cs=>if cs.length=size∧off+size≤cells.length then HD place (cells.take off++cs++cells.drop (off+size)) rest else none
   | _,_=>none
def PZ (w:World) (G:Bj):List (Nat×V)→List (Nat×Value)→Prop
 | [],[]=>True
 | (i,x)::xs,(j,v)::vs=>i=j∧Ak w G x v∧PZ w G xs vs
 | _,_=>False
theorem oa (vs:List Value) (off:Nat): ∀ (k:Nat) (cs:Array Value),off+k+vs.length≤cs.size→
 ((vs.zipIdx k).foldl (fun cs (c,j)=>cs.setIfInBounds (off+j) c) cs).toList =cs.toList.take (off+k)++vs++cs.toList.drop (off+k+vs.length):=by
 induction vs with
 | nil=>intro k cs _;simp
 | cons v vs ih=>
   intro k cs hk
   simp only [List.zipIdx_cons,List.foldl_cons]
   simp only [List.length_cons]at hk ⊢
   rw [ih (k+1) _ (by simp;omega)]
   have hlt:off+k<cs.toList.length:=by simp;omega
   rw [Array.toList_setIfInBounds,List.set_eq_take_append_cons_drop,if_pos hlt]
   have e1:(cs.toList.take (off+k)).length =off+k:=by rw [List.length_take];omega
   rw [List.take_append,List.drop_append,e1]
   rw [show off+(k+1) - (off+k)=1 by omega,show off+(k+1)+vs.length - (off+k)=vs.length+1 by omega]
   rw [List.take_take,show min (off+(k+1)) (off+k)=off+k by omega]
   have e3:List.drop (off+(k+1)+vs.length) (List.take (off+k) cs.toList)=[]:=List.drop_of_length_le (by rw [e1];omega)
   rw [e3]
   simp only [List.take_succ_cons,List.take_zero,List.drop_succ_cons,List.drop_drop,List.nil_append,List.append_assoc,List.cons_append]
   rw [show off+k+1+vs.length=off+k+(vs.length+1) by omega]
theorem O6 {w:World} {G:Bj} {place:Nat→Option (Nat×Nat)}: ∀ {ps:List (Nat×V)} {qs:List (Nat×Value)} {cells out:List C} {arr:Array Value},
 HD place cells ps=some out→PZ w G ps qs→At w G cells arr.toList→ ∃ arr',Instr.fill place arr qs=some arr'∧At w G out arr'.toList
 | [],[],cells,out,arr,h,_,hr=>by
   simp only [HD,Option.some.injEq]at h;subst h
   exact⟨arr,rfl,hr⟩
 | [],_::_,_,_,_,_,h,_=>by simp [PZ]at h
 | _::_,[],_,_,_,_,h,_=>by simp [PZ]at h
 | (i,x)::ps,(j,v)::qs,cells,out,arr,h,hp,hr=>by
   simp only [PZ]at hp
   obtain⟨rfl,hv,hp⟩:=hp
   simp only [HD]at h
   split at h
   ·rename_i off size cs hpl hcs
    split at h
    ·rename_i hb
     have hvc:=HC hv hcs
     have hl:=hr.length
     have hlv:=hvc.length
     have e:=oa v.cells.toList off 0 arr (by simp at hl hlv ⊢;omega)
     simp only [Instr.fill,hpl]
     rw [if_neg (by simp at hl hlv ⊢;omega)]
     refine O6 h hp ?_
     rw [←Array.foldl_toList,Array.toList_zipIdx,e]
     simp only [Nat.add_zero]
     have:v.cells.toList.length=size:=by rw [←hlv];exact hb.1
     rw [this]
     exact((hr.take off).append hvc).append (hr.drop (off+size))
    ·cases h
   ·cases h
end Go.PL
namespace Go.PL
open Go Go.RowKit
theorem CP {w:World} {b:Nat} {cur:Array Value} {T:TypeId} {fr:Nat×Nat} (h:w.heap[b]? =some (.cells cur T fr)) {us rest:List Value} (e:us++rest=cur.toList):w.rangeAt b 0 us:=by
 intro j v hv
 have h2:cur.toList[j]? =some v:=by
  rw [←e,List.getElem?_append_left]
  ·exact hv
  ·exact(List.getElem?_eq_some_iff.1 hv).1
 simp only [World.cell?,h]
 simpa using h2
theorem F3 {w:World} {b:Nat} {cur:Array Value} {T:TypeId} {fr:Nat×Nat} (h:w.heap[b]? =some (.cells cur T fr)) {us:List Value} (hr:w.rangeAt b 0 us):us++cur.toList.drop us.length=cur.toList:=by
 have:us=cur.toList.take us.length:=by
  apply List.ext_getElem?
  intro j
  by_cases hj:j<us.length
  ·have:=hr j us[j] (by simp [hj])
   simp only [World.cell?,h,Nat.zero_add]at this
   rw [List.getElem?_take,if_pos hj]
   have h3:cur.toList[j]? =some us[j]:=by simpa using this
   rw [h3];simp [hj]
  ·rw [List.getElem?_eq_none (by omega),List.getElem?_take,if_neg hj]
 conv=>lhs;lhs;rw [this]
 rw [List.take_append_drop]
def St.setCs (st:St) (id:AC) (cs:List C) (q:Bool):St:={st with so:=st.so.map fun e=>if e.id==id then⟨e.id,e.row,cs,e.pu&&q⟩else e}
theorem R.stored {F:Fr} {st:St} {a:Act} {w:World} {G:Bj} (h:R F st a w G) {id:AC} {e:AM} (he:st.look id=some e) {b:Nat} (hb:G.blk id=some b) {off:Nat} {xs:List C} {vs:List Value}
 (hx:At w G xs vs) (hoff:off+xs.length≤e.cs.length):
 ∃ cur T,w.heap[b]? =some (.cells cur T (0,0))∧off+vs.length≤cur.size∧
   R F (st.setCs id (e.cs.take off++xs++e.cs.drop (off+xs.length)) (AH xs)) a (w.setRow b (cur.toList.take off++vs++cur.toList.drop (off+vs.length)).toArray) G:=by
 obtain⟨hm,hid⟩:=B6 he
 obtain⟨cur,T,hheap,hle,hrow⟩:=(h.store e hm).row (VD he) (by rw [hid];exact hb)
 obtain⟨us,h1,h2⟩:=hrow.list
 have hlx:=hx.length
 have hlu:=h1.length
 have hpre:=F3 hheap h2
 refine⟨cur,T,hheap,by omega,?_⟩
 have hbl: ∀ k,k ≠ b→(w.setRow b (cur.toList.take off++vs++cur.toList.drop (off+vs.length)).toArray).heap[k]? =w.heap[k]? :=fun k hk=>setRow_other w b k _ hk
 have hnew:=setRow_heap w b cur (cur.toList.take off++vs++cur.toList.drop (off+vs.length)).toArray T (0,0) hheap
 have hk:EW G G w (w.setRow b (cur.toList.take off++vs++cur.toList.drop (off+vs.length)).toArray):=
  ⟨by simp,fun k _ hw=>hbl k (fun q=>hw ((h.wr k).2 (.inr ⟨id,by rw [q];exact hb⟩))),fun _ _ q=>q,fun i k h1 _=>by
   by_cases hkb:k=b
   ·subst hkb
    intro cur' T' fz' hq
    rw [hheap]at hq
    injection hq with hq
    injection hq with _ hq _
    subst hq
    exact⟨_,_,hnew⟩
   ·exact DI.same (hbl k hkb)⟩
 have hsplit:(us.take off++vs++us.drop (off+vs.length))++cur.toList.drop us.length=(cur.toList.take off++vs++cur.toList.drop (off+vs.length)).toArray.toList :=by
  conv=>rhs;rw [←hpre]
  simp only [List.append_assoc]
  rw [List.take_append_of_le_length (by omega),List.drop_append_of_le_length (by omega)]
 have hrange:=CP hnew hsplit
 have hl2:At w G (e.cs.take off++xs++e.cs.drop (off+xs.length)) (us.take off++vs++us.drop (off+vs.length)):=by
  rw [hlx]
  exact((h1.take off).append hx).append (h1.drop _)
 have hrow':=Au.of_list (At.mono hk _ _ (fun _ _=>⟨rfl,rfl⟩) hl2) hrange
 have hlen:(e.cs.take off++xs++e.cs.drop (off+xs.length)).length =e.cs.length:=by simp;omega
 have hcur:(cur.toList.take off++vs++cur.toList.drop (off+vs.length)).toArray.size =cur.size:=by simp;omega
 exact {
  dfr:=h.dfr,size:=h.size
  slots:=fun i=>Ak.mono hk _ _ (fun _ _=>⟨rfl,rfl⟩) (h.slots i)
  ghosts:=AJ.mono hk _ _ (fun _ _=>⟨rfl,rfl⟩) h.ghosts
  store:=by
   intro e' he'
   simp only [St.setCs,List.mem_map]at he'
   obtain⟨d,hd,rfl⟩:=he'
   split
   ·rename_i hdid
    replace hdid:d.id=id:=by simpa using hdid
    have:d=e:=by
     have hn:=h.nodup
     have:=List.pairwise_map.1 hn
     rcases List.mem_iff_getElem.1 hd with ⟨i,hi,rfl⟩
     rcases List.mem_iff_getElem.1 hm with ⟨j,hj,rfl⟩
     rcases Nat.lt_trichotomy i j with q | q | q
     ·exact absurd (hdid.trans hid.symm) (List.pairwise_iff_getElem.1 this i j hi hj q)
     ·subst q;rfl
     ·exact absurd (hid.trans hdid.symm) (List.pairwise_iff_getElem.1 this j i hj hi q)
    subst this
    have hE:=h.store d hd
    unfold BQ at hE ⊢
    simp only
    split at hE
    ·rename_i hrn
     obtain⟨b',q1,hbx⟩:=hE
     obtain⟨T',cur',q2,q3,q4⟩:=hbx.cells (VD he hrn)
     rw [hid,hb]at q1;injection q1 with q1;subst q1
     rw [hheap]at q2;injection q2 with q2;injection q2 with q2a q2b;subst q2a q2b
     exact⟨b,by rw [hid];exact hb, .inr ⟨T,_,hnew,by rw [hcur,hlen];exact q3,hrow'⟩⟩
    ·obtain⟨hl,v,q1,q2⟩:=hE
     refine⟨by rw [hlen];exact hl,v,q1,?_⟩
     rcases q2 with q2 | ⟨b',cap,cur',e1,e2,e3,e4,e5,e6,e7⟩
     ·obtain⟨_,_,_,q3⟩:=q2;rw [hid,hb]at q3;cases q3
     ·rw [hid,hb]at e2;injection e2 with e2;subst e2
      rw [hheap]at e3;injection e3 with e3;injection e3 with e3a e3b;subst e3a e3b
      exact .inr ⟨b,cap,_,e1,by rw [hid];exact hb,hnew,e4,e5,by rw [hcur];exact e6,hrow'⟩
   ·rename_i hdid
    replace hdid: ¬d.id=id:=by simpa using hdid
    exact CY hk (fun _ _=>⟨rfl,rfl⟩) ⟨rfl,rfl⟩ (fun k hk'=>hbl k (fun q=>hdid (h.inj _ _ k hk' (by rw [q];exact hb)))) (h.store d hd)
  deep:=by
   intro e' he'
   simp only [St.setCs,List.mem_map]at he'
   obtain⟨d,hd,rfl⟩:=he'
   split
   ·rename_i hdid
    replace hdid:d.id=id:=by simpa using hdid
    exact BX.triv (h.deep d hd).1 (by show JM d.id=false;rw [hdid];exact PS he)
   ·rename_i hdid
    replace hdid: ¬d.id=id:=by simpa using hdid
    refine BX.mono hk ⟨rfl,rfl⟩ (fun _ _=>⟨rfl,rfl⟩) (fun k hk'=>hbl k (fun q=>hdid (h.inj _ _ k hk' (by rw [q];exact hb)))) (fun _ k b' hb'=>hbl b' (fun q=>?_)) (h.deep d hd)
    have h1:Cw k d.id=id:=h.inj _ _ b' hb' (by rw [q];exact hb)
    have h2:=(h.deep e hm).1
    rw [hid, ←h1]at h2
    cases h2
  pures:=by
   intro e' he'
   simp only [St.setCs,List.mem_map]at he'
   obtain⟨d,hd,rfl⟩:=he'
   split
   ·rename_i hdid
    replace hdid:d.id=id:=by simpa using hdid
    have:d=e:=by
     have hn:=h.nodup
     have:=List.pairwise_map.1 hn
     rcases List.mem_iff_getElem.1 hd with ⟨i,hi,rfl⟩
     rcases List.mem_iff_getElem.1 hm with ⟨j,hj,rfl⟩
     rcases Nat.lt_trichotomy i j with q | q | q
     ·exact absurd (hdid.trans hid.symm) (List.pairwise_iff_getElem.1 this i j hi hj q)
     ·subst q;rfl
     ·exact absurd (hid.trans hdid.symm) (List.pairwise_iff_getElem.1 this j i hj hi q)
    subst this
    intro hq
    simp only [Bool.and_eq_true]at hq
    simp only [BP,Bool.and_eq_true]
    exact⟨⟨Kw _ (h.pures d hd hq.1),hq.2⟩,Kx _ (h.pures d hd hq.1)⟩
   ·exact h.pures d hd
  nodup:=by
   have:(st.setCs id (e.cs.take off++xs++e.cs.drop (off+xs.length)) (AH xs)).so.map (·.id)=st.so.map (·.id):=by
    simp only [St.setCs,List.map_map]
    apply List.map_congr_left
    intro d _
    simp only [Function.comp]
    split<;>rfl
   rw [this];exact h.nodup
  inj:=h.inj
  lt:=fun i k hi=>by simpa using h.lt i k hi
  new:=h.new,wr:=h.wr,avlt:=h.avlt,inv:=h.inv,avold:=h.avold
  os:=by simpa using h.os
  tape:=by simpa using h.tape
  output:=by simpa using h.output
  hsize:=by simpa using h.hsize
  ext:=fun k hk' hold=>(hbl k (fun q=>by
   rcases h.new id b hb with q2 | q2
   ·omega
   ·exact hold (by rw [q];exact q2))).trans (h.ext k hk' hold)}
theorem L9 {w:World} {G:Bj} {e:AM} {E n len:Nat} (hrow:e.row=some (E,n,len)) (h:BQ w G e):
 ∃ v vs,G.own e.id=some v∧v.oneCell'=true∧At w G e.cs vs∧((w.ownsRow 0 E n v len vs∧v.ownBlock=G.blk e.id)∨ ∃ p,v= .slice (some p) 0 0∧len=0∧vs=[]∧G.blk e.id=none):=by
 unfold BQ at h
 rw [hrow]at h
 obtain⟨hl,v,h1,h2⟩:=h
 rcases h2 with ⟨p,rfl,h0,hb⟩ | ⟨b,cap,cur,rfl,e2,e3,e4,e5,e6,e7⟩
 ·have hcs:e.cs=[]:=by cases hc:e.cs with
   | nil=>rfl
   | cons c cs=>rw [hc,h0]at hl;simp at hl
  cases p with
  | none=>exact⟨_,[],h1,rfl,by rw [hcs];simp [At], .inl ⟨⟨by rw [h0];simp, .inl ⟨rfl,h0⟩⟩,by rw [hb];rfl⟩⟩
  | some p=>exact⟨_,[],h1,rfl,by rw [hcs];simp [At], .inr ⟨p,rfl,h0,rfl,hb⟩⟩
 ·obtain⟨us,q1,q2⟩:=e7.list
  have hlu:=q1.length
  have hpre:=F3 e3 q2
  refine⟨_,us,h1,rfl,q1, .inl ⟨⟨by omega, .inr ⟨b,cap,cur,rfl,Nat.zero_le _,e3,e4,e5,e6,?_⟩⟩,by rw [e2];rfl⟩⟩
  rw [←hpre,List.take_append_of_le_length (by omega)]
  exact List.take_of_length_le (by omega)
theorem R.appended {F:Fr} {st:St} {a:Act} {w w':World} {G:Bj} (h:R F st a w G) {id:AC} {e:AM} (he:st.look id=some e) {E n len m:Nat}
 {v v':Value} {xs us:List Value} {cs:List C} {q:Bool} (hq:q=true→AH cs=true) (hob:v.ownBlock=G.blk id) (h1:At w G e.cs xs) (h2:At w G cs us)
 (hold:w.ownsRow 0 E n v len xs) (hnew:w'.ownsRow 0 E n v' (len+m) (xs++us)) (hg:w.grownBy w' v.ownBlock) (hfr:v'.ownBlock=v.ownBlock∨ ∀ b,v'.ownBlock=some b→w.heap.size≤b):
 ∃ G',R F (st.new ⟨id,some (E,n,len+m),e.cs++cs,e.pu&&q⟩) a w' G'∧G'.own id=some v'∧v'.oneCell'=true:=by
 obtain⟨hm,hid⟩:=B6 he
 have hblk: ∀ b,b<w.heap.size→G.blk id ≠ some b→w'.heap[b]? =w.heap[b]? :=fun b hb hne=>hg.block b hb (by rw [hob];exact fun q=>hne q.symm)
 have hn: ∀ b,v'.ownBlock=some b→w.heap.size≤b∨(G.blk id=some b∧DI w w' b):=by
  intro b hb
  rcases hfr with q | q
  ·refine .inr ⟨by rw [←hob, ←q];exact hb,?_⟩
   have hb2:v.ownBlock=some b:=by rw [←q];exact hb
   intro cur T fz hc
   rcases hnew.2 with ⟨r,_⟩ | ⟨g,cap,cur',r,_,r2,_⟩
   ·rw [r]at hb;cases hb
   ·rw [r]at hb
    simp only [Value.ownBlock,Option.some.injEq]at hb
    subst hb
    rcases hold.2 with ⟨r3,_⟩ | ⟨g3,cap3,cur3,r3,_,r4,_⟩
    ·rw [r3]at hb2;cases hb2
    ·rw [r3]at hb2
     simp only [Value.ownBlock,Option.some.injEq]at hb2
     subst hb2
     rw [r4]at hc
     injection hc with hc
     injection hc with _ hc _
     subst hc
     exact⟨_,_,r2⟩
  ·exact .inl (q b hb)
 have hlt: ∀ b,v'.ownBlock=some b→b<w'.heap.size:=fun b hb=>(hnew.lt b hb).2
 have hone:v'.oneCell'=true:=by
  rcases hnew.2 with ⟨q,_⟩ | ⟨g,cap,cur,q,_⟩<;>rw [q]<;>rfl
 refine⟨CX F G id v'.ownBlock (some v'),?_,by simp [CX],hone⟩
 have hk:=h.keeps id v'.ownBlock (some v') hg.size hblk hn
 have hpq:(e.pu&&q)=true→AH (e.cs++cs)=true:=fun hx=>by
  simp only [Bool.and_eq_true]at hx
  rw [BP,h.pures e hm hx.1,hq hx.2];rfl
 have hkill:=Jm (row:=some (E,n,len+m)) h hk hpq (h1.append h2)
 refine h.set ⟨id,some (E,n,len+m),e.cs++cs,e.pu&&q⟩ v'.ownBlock (some v') ⟨hg.os,hg.tape,hg.output⟩ hg.size hblk ?_ (fun b hb=>⟨hn b hb,hlt b hb⟩) hpq ?_
 ·intro b hb hold2
  refine hblk b (Nat.lt_of_lt_of_le hb h.hsize) (fun q=>?_)
  rcases h.new id b q with q2 | q2
  ·omega
  ·exact hold2 q2
 ·have hl:=h1.length
  have hl2:=h2.length
  have hln:=hnew.1
  refine Wa (AM.kill_row _ _) ⟨by rw [PY];simp at hln ⊢;omega,v',by simp [CX,AM.kill_id],?_⟩
  rcases hnew.2 with ⟨q,h0⟩ | ⟨g,cap,cur,q,_,q2,q3,q4,q5,q6⟩
  ·exact .inl ⟨none,q,h0,by simp [CX,q,Value.ownBlock,AM.kill_id]⟩
  ·refine .inr ⟨g,cap,cur,q,by simp [CX,q,Value.ownBlock,AM.kill_id],q2,q3,q4,q5,?_⟩
   refine Au.of_list (vs:=xs++us) ?_ ?_
   ·exact hkill
   ·exact CP q2 (rest:=cur.toList.drop ((len+m)*n)) (by rw [←q6,List.take_append_drop])
theorem LC {P:Program} {w:World} (t ty e:TypeId) (i:TypeInfo) (z:Value) (size bytes:Nat) (ht:P.underlying t=some (.slice e)) (hi:P.info? e=some i) (hz:i.zero=some z)
 (hsize:i.size=size) (hby:i.bytes=bytes) (hzs:z.cells.size=size) (hsz:0<size)
 (v:Value) (n:Nat) (xs:List Value) (hown:w.ownsRow 0 e size v n xs)
 (a:Addr) (m c:Nat) (news:List Value) (hl:news.length=m*size) (hnews: ∀ j u,news[j]? =some u→w.cell? (a.add j)=some u) (h1: ∀ u∈news,u.oneCell'=true)
 (h63:n+m≤maxLen) (hbytes:(n+m)*bytes≤140737488355328):
 ∃ v' w',(Builtin.append_ #[t,t] ty #[v, .slice (some a) m c]).run P w= .ok v' w'∧w'.ownsRow 0 e size v' (n+m) (xs++news)∧w.grownBy w' v.ownBlock∧
   (v'.ownBlock=v.ownBlock∨ ∀ b,v'.ownBlock=some b→w.heap.size≤b):=by
 subst hsize hby
 have hM:maxLen=9223372036854775807:=rfl
 have hlen:(xs++news).length =(n+m)*i.size:=by rw [List.length_append,hown.1,hl, ←Nat.add_mul]
 have grown: ∀ old,old<n+m→ ∀ row,
  (w.drew.alloc (.cells (xs.toArray++news.toArray++Builtin.zeroCells z.cells (grownCap w (n+m) old e - (n+m))) e)).ownsRow 0 e i.size
   (.slice (some ⟨w.heap.size,0,none⟩) (n+m) (grownCap w (n+m) old e)) (n+m) (xs++news)∧
  w.grownBy (w.drew.alloc (.cells (xs.toArray++news.toArray++Builtin.zeroCells z.cells (grownCap w (n+m) old e - (n+m))) e)) row:=by
  intro old ho row
  have hge:=grownCap_ge w (n+m) old e
  have hcm:grownCap w (n+m) old e≤maxLen:=grownCap_le_maxLen w (n+m) old e h63
  refine⟨⟨hlen, .inr ⟨w.heap.size,_,_,rfl,Nat.zero_le _,heap_alloc_new w.drew _,hge,hcm,?_,?_⟩⟩,⟨rfl,rfl,rfl,by simp,fun k hk _=>heap_alloc_old w.drew _ hk⟩⟩
  ·simp only [Array.size_append,List.size_toArray,size_zeroCells,hzs,hown.1,hl, ←Nat.add_mul]
   congr 1
   omega
  ·simp only [Array.toList_append,List.append_assoc]
   rw [←List.append_assoc, ←hlen]
   exact List.take_left
 rcases hown.2 with ⟨rfl,rfl⟩ | ⟨g,cap,cur,rfl,hbg,hg,hnc,hcm,hcs,htake⟩
 ·have hx:xs=[]:=List.eq_nil_of_length_eq_zero (by simpa using hown.1)
  subst hx
  by_cases hm:m=0
  ·subst hm
   have hn:news=[]:=List.eq_nil_of_length_eq_zero (by simpa using hl)
   subst hn
   refine⟨.slice none 0 0,w,?_,World.ownsRow_nil w 0 e i.size,⟨rfl,rfl,rfl,Nat.le_refl _,fun _ _ _=>rfl⟩, .inl rfl⟩
   simp [Builtin.append_,run_underlying ht,sizeOf,typeInfo,hi,Builtin.lenOf,Builtin.firstCells,loadCells,loadCellsFrom]
  ·have hr:=run_append_nil (P:=P) w t ty e i z ht hi hz a m c news hl hnews (by omega) (by omega) (by have hb:=hbytes;simp only [Nat.zero_add]at hb;omega)
   have hgr:=grown 0 (by omega) (Value.ownBlock (.slice none 0 0))
   simp only [Nat.zero_add,List.nil_append,Array.empty_append]at hgr ⊢
   exact⟨_,_,hr,hgr.1,hgr.2, .inr (fun b hb=>by simp [Value.ownBlock]at hb;omega)⟩
 ·by_cases hroom:n+m≤cap
  ·have hfit:n*i.size+news.length≤cur.size:=by rw [hl,hcs, ←Nat.add_mul];exact Nat.mul_le_mul_right _ hroom
   have hr:=run_append_room (P:=P) w t ty e i ht hi g n cap cur hg a m c news hl hnews h1 hroom hfit
   refine⟨_,_,hr,⟨hlen, .inr ⟨g,cap,_,rfl,hbg,setRow_heap w g cur _ e _ hg,hroom,hcm,?_,?_⟩⟩,⟨rfl,rfl,rfl,by simp,fun k _ hk=>setRow_other w g k _ (fun e=>hk (by simp [Value.ownBlock,e]))⟩, .inl rfl⟩
   ·simp only [List.size_toArray,List.length_append,List.length_take,List.length_drop,Array.length_toList]
    omega
   ·rw [htake, ←hlen]
    exact List.take_left
  ·have holds: ∀ j u,xs[j]? =some u→w.cell? ((⟨g,0,none⟩:Addr).add j)=some u:=hown.cells (g:=g) rfl
   have hr:=run_append_grow (P:=P) w t ty e i z ht hi hz ⟨g,0,none⟩ n cap xs hown.1 holds a m c news hl hnews (by omega) (by omega) (growslice_fits (by omega) hbytes)
   have hgr:=grown cap (by omega) (Value.ownBlock (.slice (some ⟨g,0,none⟩) n cap))
   exact⟨_,_,hr,hgr.1,hgr.2, .inr (fun b hb=>by simp [Value.ownBlock]at hb;omega)⟩
theorem R.appended0 {F:Fr} {st:St} {a:Act} {w:World} {G:Bj} (h:R F st a w G) {id:AC} {e:AM} {E n:Nat} {p:Addr} (pu:Bool) (hcs:e.cs=[]):
 ∃ G',R F (st.new ⟨id,some (E,n,0+0),e.cs++[],pu⟩) a w G'∧G'.own id=some (.slice (some p) 0 0):=by
 refine⟨CX F G id none (some (.slice (some p) 0 0)),?_,by simp [CX]⟩
 rw [hcs]
 refine h.set ⟨id,some (E,n,0+0),[]++[],pu⟩ none _ ⟨rfl,rfl,rfl⟩ (Nat.le_refl _) (fun _ _ _=>rfl) (fun _ _ _=>rfl) (fun b hb=>by cases hb) (fun _=>rfl) ?_
 refine Wa (AM.kill_row _ _) ⟨by rw [PY];simp,_,by simp only [CX,AM.kill_id,if_true], .inl ⟨some p,rfl,rfl,by simp [CX,AM.kill_id]⟩⟩
theorem LD {P:Program} {w:World} (t ty e:TypeId) (i:TypeInfo) (z:Value) (size bytes:Nat) (ht:P.underlying t=some (.slice e)) (hi:P.info? e=some i) (hz:i.zero=some z)
 (hsize:i.size=size) (hby:i.bytes=bytes) (hzs:z.cells.size=size) (hsz:0<size) (p:Addr)
 (a:Addr) (m c:Nat) (news:List Value) (hl:news.length=m*size) (hnews: ∀ j u,news[j]? =some u→w.cell? (a.add j)=some u) (hm:0<m)
 (h63:m≤maxLen) (hbytes:m*bytes≤140737488355328):
 ∃ v' w',(Builtin.append_ #[t,t] ty #[.slice (some p) 0 0, .slice (some a) m c]).run P w= .ok v' w'∧w'.ownsRow 0 e size v' m news∧w.grownBy w' none∧
   ∀ b,v'.ownBlock=some b→w.heap.size≤b:=by
 subst hsize hby
 have hM:maxLen=9223372036854775807:=rfl
 have hr:=run_append_grow (P:=P) w t ty e i z ht hi hz p 0 0 [] (by simp) (fun j u hu=>by simp at hu) a m c news hl hnews (by omega) (by omega) (growslice_fits (by omega) (by simpa using hbytes))
 have hge:=grownCap_ge w (0+m) 0 e
 have hcm:grownCap w (0+m) 0 e≤maxLen:=grownCap_le_maxLen w (0+m) 0 e (by omega)
 refine⟨_,_,hr,⟨hl, .inr ⟨w.heap.size,_,_,by simp,Nat.zero_le _,heap_alloc_new w.drew _,by simpa using hge,hcm,?_,?_⟩⟩,⟨rfl,rfl,rfl,by simp,fun k hk _=>heap_alloc_old w.drew _ hk⟩,fun b hb=>by simp [Value.ownBlock]at hb;omega⟩
 ·simp only [Array.size_append,List.size_toArray,size_zeroCells,hzs,hl, ←Nat.add_mul,List.length_nil,Nat.zero_add]at hge ⊢
  congr 1
  omega
 ·simp only [Array.toList_append,List.nil_append]
  rw [←hl]
  exact List.take_left
end Go.PL
namespace Go.PL
open Go Go.RowKit
mutual
def V.pure:V→Bool
 | .c x=>x.pure
 | .agg cs=>AH cs
 | .tup vs=>Ce vs
 | .g b v=> !b||v.pure
 | .undef =>true
def Ce:List V→Bool
 | []=>true
 | v::vs=>v.pure&&Ce vs
end
mutual
theorem NH (id:AC): ∀ v:V,v.pure=true→v.men id=false
 | .c x,h=>by simp only [V.men];exact L5 id x (by simpa only [V.pure] using h)
 | .agg cs,h=>by simp only [V.men];exact By id cs (by simpa only [V.pure] using h)
 | .tup vs,h=>by simp only [V.men];exact Wc id vs (by simpa only [V.pure] using h)
 | .g b v,h=>by
   cases b with
   | false=>simp [V.men]
   | true=>simp only [V.pure,Bool.not_true,Bool.false_or]at h;simp [V.men,NH id v h]
 | .undef,_=>by simp [V.men]
theorem Wc (id:AC): ∀ vs:List V,Ce vs=true→Jk id vs=false
 | [],_=>by simp [Jk]
 | v::vs,h=>by
   simp only [Ce,Bool.and_eq_true]at h
   simp [Jk,NH id v h.1,Wc id vs h.2]
end
def im (av:Nat→Prop):Bj:=⟨fun _=>none,fun _=>none,av⟩
theorem Wd {w:World} {av:Nat→Prop} {G:Bj} (hG: ∀ b,b<w.heap.size→G.wr b→av b) {x:V} {v:Value} (hp:x.pure=true) (h:Ak w (im av) x v):Ak w G x v:=
 Ak.mono (G:=im av) (G':=G) ⟨Nat.le_refl _,fun _ _ _=>rfl,fun b hb hw=>hG b hb hw,fun _ _ _ _=>DI.same rfl⟩ x v (fun id hid=>absurd (show x.men id=true from hid) (by rw [NH id x hp];simp)) h
theorem mR {w:World} {av:Nat→Prop} {G:Bj} (hG: ∀ b,b<w.heap.size→av b→G.wr b) {x:V} {v:Value} (hp:x.pure=true) (h:Ak w G x v):Ak w (im av) x v:=
 Ak.mono (G:=G) (G':=im av) ⟨Nat.le_refl _,fun _ _ _=>rfl,fun b hb hw=>hG b hb hw,fun _ _ _ _=>DI.same rfl⟩ x v (fun id hid=>absurd (show x.men id=true from hid) (by rw [NH id x hp];simp)) h
def Jn (id:AC) (len:Nat) (cs:List C):C→C
 | .osl i=>if i=id then .sl len cs else .osl i
 | .ptr i o=>if i=id then .any else .ptr i o
 | .bsl i o n=>if i=id then .any else .bsl i o n
 | .bld i T=>if i=id then .any else .bld i T
 | .mref i=>if i=id then .any else .mref i
 | .clo f ds=>if Ck id ds then .any else .clo f ds
 | .bmv f ds=>if Ck id ds then .any else .bmv f ds
 | c=>c
mutual
def JQ (id:AC) (len:Nat) (cs:List C):V→V
 | .c x=> .c (Jn id len cs x)
 | .agg ds=> .agg (ds.map (Jn id len cs))
 | .tup vs=> .tup (JR id len cs vs)
 | .g b v=> .g b (JQ id len cs v)
 | .undef => .undef
def JR (id:AC) (len:Nat) (cs:List C):List V→List V
 | []=>[]
 | v::vs=>JQ id len cs v::JR id len cs vs
end
def AM.frz (id:AC) (len:Nat) (cs:List C) (e:AM):AM:=match e with
 | ⟨i,r,ds,true⟩=>⟨i,r,ds,true⟩
 | ⟨i,r,ds,false⟩=>⟨i,r,ds.map (Jn id len cs),false⟩
theorem AM.frz_id (id:AC) (len:Nat) (cs:List C) (e:AM):(e.frz id len cs).id =e.id:=by obtain⟨i,r,cs,_ | _⟩:=e<;>rfl
theorem AM.frz_mp {id:AC} {len:Nat} {cs:List C} {e:AM} {kv:List (Int×Int)} (h:e.cs=[.mp kv]):(e.frz id len cs).cs =[.mp kv]:=by
 obtain⟨i,r,ds,_ | _⟩:=e
 ·simp only at h;subst h;rfl
 ·exact h
theorem AM.frz_row (id:AC) (len:Nat) (cs:List C) (e:AM):(e.frz id len cs).row =e.row:=by obtain⟨i,r,cs,_ | _⟩:=e<;>rfl
def St.freeze (st:St) (id:AC):St:=
 match st.look id with
 | some e=>match e.row with
   | some (_,_,len)=>if !e.pu then st else
    {tm:=st.tm.map (JQ id len e.cs),so:=(st.so.filter (fun d=>d.id != id)).map (AM.frz id len e.cs),gh:=JR id len e.cs st.gh,pre:=st.pre}
   | none=>st
 | none=>st
section
variable {F:Fr} {w:World} {G:Bj} {id:AC} {len:Nat} {cs:List C}
structure xt (F:Fr) (w:World) (G:Bj) (id:AC) (len:Nat) (cs:List C):Prop where
 own: ∀ v,G.own id=some v→Ap w (CX F G id none none) (.sl len cs) v
 keeps:EW G (CX F G id none none) w w
theorem eU (hf:xt F w G id len cs) {c:C} {v:Value} (h:Ap w G c v):Ap w (CX F G id none none) (Jn id len cs c) v:=by
 have hm: ∀ d:C,d.men id=false→Ap w G d v→Ap w (CX F G id none none) d v:=fun d hd hr=>
  Ap.mono hf.keeps d v (EL (fun i hi he=>by subst he;rw [hd]at hi;cases hi)) hr
 cases c with
 | osl i=>
   simp only [Jn]
   split
   ·rename_i hi;subst hi;simp only [Ap]at h;exact hf.own v h.1
   ·rename_i hi;exact hm _ (by simpa [C.men] using hi) h
 | ptr i o=>
   simp only [Jn]
   split
   ·simp only [Ap];exact h.one
   ·rename_i hi;exact hm _ (by simpa [C.men] using hi) h
 | bsl i o n=>
   simp only [Jn]
   split
   ·simp only [Ap];exact h.one
   ·rename_i hi;exact hm _ (by simpa [C.men] using hi) h
 | bld i T=>
   simp only [Jn]
   split
   ·simp only [Ap];exact h.one
   ·rename_i hi;exact hm _ (by simpa [C.men] using hi) h
 | sl l ds=>exact hm (.sl l ds) (by simp [C.men]) h
 | iptr ds o=>exact hm (.iptr ds o) (by simp [C.men]) h
 | int k n=>exact hm (.int k n) (by simp [C.men]) h
 | bool b=>exact hm (.bool b) (by simp [C.men]) h
 | str s=>exact hm (.str s) (by simp [C.men]) h
 | nilp=>exact hm (.nilp) (by simp [C.men]) h
 | niface=>exact hm (.niface) (by simp [C.men]) h
 | nils=>exact hm (.nils) (by simp [C.men]) h
 | fn f=>exact hm (.fn f) (by simp [C.men]) h
 | clo f ds=>
   simp only [Jn]
   split
   ·simp only [Ap];exact h.one
   ·rename_i hi;exact hm _ (by simpa [C.men] using hi) h
 | bmv f ds=>
   simp only [Jn]
   split
   ·simp only [Ap];exact h.one
   ·rename_i hi;exact hm _ (by simpa [C.men] using hi) h
 | held=>exact hm (.held) (by simp [C.men]) h
 | any=>exact hm (.any) (by simp [C.men]) h
 | mref i=>
   simp only [Jn]
   split
   ·simp only [Ap];exact h.one
   ·rename_i hi;exact hm _ (by simpa [C.men] using hi) h
 | mp kv=>exact hm (.mp kv) (by simp [C.men]) h
 | gptr g o=>exact hm (.gptr g o) (by simp [C.men]) h
 | isl E n l ds=>exact hm (.isl E n l ds) (by simp [C.men]) h
theorem We (hf:xt F w G id len cs): ∀ {ds:List C} {vs:List Value},At w G ds vs→At w (CX F G id none none) (ds.map (Jn id len cs)) vs
 | [],[],_=>by simp [At]
 | [],_::_,h=>by simp [At]at h
 | _::_,[],h=>by simp [At]at h
 | c::ds,v::vs,h=>by
   simp only [At]at h
   simp only [List.map_cons,At]
   exact⟨eU hf h.1,We hf h.2⟩
mutual
theorem Wf (hf:xt F w G id len cs): ∀ (x:V) (v:Value),Ak w G x v→Ak w (CX F G id none none) (JQ id len cs x) v
 | .c x,v,h=>by simp only [Ak,JQ]at h ⊢;exact eU hf h
 | .agg ds,v,h=>by
   simp only [Ak,JQ]at h ⊢
   obtain⟨arr,e,hr⟩:=h
   exact⟨arr,e,We hf hr⟩
 | .tup vs,v,h=>by
   simp only [Ak,JQ]at h ⊢
   obtain⟨arr,e,hr⟩:=h
   exact⟨arr,e,R5 hf vs _ hr⟩
 | .g b x,v,h=>by
   simp only [Ak,JQ]at h ⊢
   split
   ·rename_i hb;rw [if_pos hb]at h;exact Wf hf x v h
   ·rename_i hb;rw [if_neg hb]at h;exact h
 | .undef,_,_=>by simp only [Ak,JQ]
theorem R5 (hf:xt F w G id len cs): ∀ (xs:List V) (vs:List Value),AJ w G xs vs→AJ w (CX F G id none none) (JR id len cs xs) vs
 | [],_,h=>by simpa only [AJ,JR] using h
 | x::xs,vs,h=>by
   simp only [AJ,JR]at h ⊢
   obtain⟨v,r,e,h1,h2⟩:=h
   exact⟨v,r,e,Wf hf x v h1,R5 hf xs r h2⟩
end
end
theorem R.frz {F:Fr} {st:St} {a:Act} {w:World} {G:Bj} (h:R F st a w G) {id:AC} {e:AM} (he:st.look id=some e) {E n len:Nat} (hrow:e.row=some (E,n,len)) (hpu:AH e.cs=true):
 xt F w G id len e.cs where
 keeps:=h.keeps id none none (Nat.le_refl _) (fun _ _ _=>rfl) (fun b hb=>by cases hb)
 own:=by
  intro v hv
  obtain⟨hm,hid⟩:=B6 he
  have hE:=h.store e hm
  unfold BQ at hE
  rw [hrow]at hE
  obtain⟨hl,v',h1,h2⟩:=hE
  rw [hid,hv]at h1
  injection h1 with h1;subst h1
  have hmen:=By id e.cs hpu
  simp only [Ap]
  refine⟨hpu,?_⟩
  rcases h2 with ⟨p,rfl,h0,_⟩ | ⟨b,cap,cur,rfl,e2,e3,e4,e5,e6,e7⟩
  ·refine⟨p,0,by rw [h0],by omega,by simp [maxLen],fun _=>?_, .inl h0⟩
   cases hc:e.cs with
   | nil=>rfl
   | cons c cs=>rw [hc,h0]at hl;simp at hl
  ·rw [hid]at e2
   refine⟨_,cap,rfl,e4,e5,fun h0=>?_, .inr ⟨b,0,rfl,?_,h.lt id b e2,?_⟩⟩
   ·cases hc:e.cs with
    | nil=>rfl
    | cons c cs=>rw [hc,h0]at hl;simp at hl
   ·simp only [CX]
    rintro(q | ⟨i,q⟩)
    ·rcases h.new id b e2 with q2 | q2
     ·have:=h.avlt b q;omega
     ·exact h.avold b q2 q
    ·split at q
     ·cases q
     ·rename_i hi;exact hi (h.inj i id b q e2)
   ·have hk:=h.keeps id none none (Nat.le_refl _) (fun _ _ _=>rfl) (fun b hb=>by cases hb)
    exact Au.mono hk _ _ _ (EL (fun i hi he'=>by subst he';rw [hmen]at hi;cases hi)) (fun _=>rfl) e7
def St.okFrz (st:St) (id:AC):Bool:=
 match st.look id with
 | some e=>match e.row with
   | some _=>e.pu
   | none=>false
 | none=>false
theorem R.freeze {F:Fr} {st:St} {a:Act} {w:World} {G:Bj} (h:R F st a w G) (id:AC):
 ∃ G',R F (st.freeze id) a w G'∧(∀ b,G'.wr b→G.wr b)∧(st.okFrz id=true→ ∀ b,G.blk id=some b→ ¬G'.wr b):=by
 have hid: ∀ b,G.wr b→G.wr b:=fun _ q=>q
 unfold St.freeze
 split
 ·rename_i e he
  split
  ·rename_i E n len hrow
   split
   ·rename_i hmen
    exact⟨G,h,hid,fun hok=>by simp [St.okFrz,he,hrow]at hok;simp [hok]at hmen⟩
   ·rename_i hmen
    have hm0:=(B6 he).1
    have hf:=h.frz he hrow (h.pures e hm0 (by simpa using hmen))
    refine⟨CX F G id none none,h.rename id none none ⟨rfl,rfl,rfl⟩ (Nat.le_refl _) (fun _ _ _=>rfl) (fun b hb=>by cases hb) _ (by simp) ?_ ?_ ?_ ?_ ?_ ?_,?_,?_⟩
    rotate_right 2
    ·intro b hb
     simp only [CX]at hb
     rw [h.wr]
     rcases hb with hb | ⟨i,hb⟩
     ·exact .inl hb
     ·split at hb
      ·cases hb
      ·exact .inr ⟨i,hb⟩
    ·intro _ b hb hw
     simp only [CX]at hw
     rcases hw with q | ⟨i,q⟩
     ·rcases h.new id b hb with q2 | q2
      ·have:=h.avlt b q;omega
      ·exact h.avold b q2 q
     ·split at q
      ·cases q
      ·rename_i hi;exact hi (h.inj i id b q hb)
    ·intro i
     simp only
     rw [IK (st:=st) (by simp [JQ])]
     exact Wf hf _ _ (h.slots i)
    ·exact R5 hf _ _ h.ghosts
    ·intro d hd
     simp only [List.mem_map,List.mem_filter]at hd
     obtain⟨d',⟨hd',hne⟩,rfl⟩:=hd
     have:=h.pures d' hd'
     obtain⟨i,r,ds,pu⟩:=d'
     cases pu with
     | true=>exact this
     | false=>intro hq;cases hq
    ·intro d hd
     simp only [List.mem_map,List.mem_filter]at hd
     obtain⟨d',⟨hd',hne⟩,rfl⟩:=hd
     have hne':d'.id ≠ id:=by simpa using hne
     have hE:=h.store d' hd'
     have hpd:=h.pures d' hd'
     have hrow: ∀ {b o},Au w G d'.cs b o→Au w (CX F G id none none) (d'.frz id len e.cs).cs b o:=fun hr=>by
      obtain⟨vs,q1,q2⟩:=hr.list
      obtain⟨i,r,ds,pu⟩:=d'
      cases pu with
      | true=>exact Au.mono hf.keeps _ _ _ (EL (fun j hj he=>by subst he;have hj':Ck j ds=true:=hj;rw [By j ds (hpd rfl)]at hj';cases hj')) (fun _=>rfl) hr
      | false=>exact Au.of_list (We hf q1) q2
     have hlen:(d'.frz id len e.cs).cs.length =d'.cs.length:=by obtain⟨i,r,ds,_ | _⟩:=d'<;>simp [AM.frz]
     have hfi:=AM.frz_id id len e.cs d'
     have hfr:=AM.frz_row id len e.cs d'
     unfold BQ at hE ⊢
     rw [hfr]
     have eb:(CX F G id none none).blk d'.id=G.blk d'.id:=by simp [CX,hne']
     have eo:(CX F G id none none).own d'.id=G.own d'.id:=by simp [CX,hne']
     rw [hfi,eb,eo]
     split at hE
     ·obtain⟨b,q1,q2⟩:=hE
      refine⟨b,q1,?_⟩
      rcases q2 with ⟨kv,es,q2,q3⟩ | ⟨T,cur,q2,q3,q4⟩
      ·exact .inl ⟨kv,es,AM.frz_mp q2,q3⟩
      ·exact .inr ⟨T,cur,q2,by rw [hlen];exact q3,hrow q4⟩
     ·obtain⟨hl,v,q1,q2⟩:=hE
      refine⟨by rw [hlen];exact hl,v,q1,?_⟩
      rcases q2 with q2 | ⟨b,cap,cur,e1,e2,e3,e4,e5,e6,e7⟩
      ·exact .inl q2
      ·exact .inr ⟨b,cap,cur,e1,e2,e3,e4,e5,e6,hrow e7⟩
    ·intro d hd
     simp only [List.mem_map,List.mem_filter]at hd
     obtain⟨d',⟨hd',hne⟩,rfl⟩:=hd
     have hne':d'.id ≠ id:=by simpa using hne
     have hmk: ∀ k,Cw k d'.id ≠ id:=fun k q=>by
      have h2:=(h.deep e hm0).1
      rw [(B6 he).2, ←q]at h2
      cases h2
     have hD:BX w G (d'.frz id len e.cs):=by
      have h1:=h.deep d' hd'
      obtain⟨i,r,ds,pu⟩:=d'
      cases pu with
      | true=>exact h1
      | false=>exact⟨h1.1,fun hq=>absurd (h1.2 hq).1 (by simp)⟩
     have hfi:=AM.frz_id id len e.cs d'
     exact BX.mono hf.keeps (by rw [hfi];simp [CX,hne']) (fun _ k=>by rw [hfi];simp [CX,hmk k]) (fun _ _=>rfl) (fun _ _ _ _=>rfl) hD
    ·have:(((st.so.filter (fun d=>d.id != id)).map (AM.frz id len e.cs)).map (·.id))=(st.so.filter (fun d=>d.id != id)).map (·.id):=by
      simp [List.map_map,Function.comp_def,AM.frz_id]
     simp only
     rw [this]
     exact List.Sublist.nodup (List.Sublist.map (fun d:AM=>d.id) List.filter_sublist) h.nodup
  ·rename_i hrow
   exact⟨G,h,hid,fun hok=>by simp [St.okFrz,he,hrow]at hok⟩
 ·rename_i he
  exact⟨G,h,hid,fun hok=>by simp [St.okFrz,he]at hok⟩
end Go.PL
namespace Go.PL
open Go Go.RowKit
theorem TW {w:World} {G:Bj}: ∀ {cs:List C} {vs:List Value},cs.length=vs.length→(∀ (i:Nat) (c:C) (v:Value),cs[i]? =some c→vs[i]? =some v→Ap w G c v)→At w G cs vs
 | [],[],_,_=>by simp [At]
 | [],_::_,h,_=>by simp at h
 | _::_,[],h,_=>by simp at h
 | c::cs,v::vs,h,hr=>by
   simp only [At]
   exact⟨hr 0 c v (by simp) (by simp),TW (by simpa using h) (fun i c' v' h1 h2=>hr (i+1) c' v' (by simpa using h1) (by simpa using h2))⟩
def Cl (z:List C) (k:Nat):List C:=(List.range (k*z.length)).map (fun i=>z.getD (i % z.length) .any)
theorem ZK {w:World} {G:Bj} {z:List C} {zv:Array Value} (h:At w G z zv.toList) (hz:0<z.length) (k:Nat):
 At w G (Cl z k) ((Array.range (k*zv.size)).map (zv[· % zv.size]!)).toList :=by
 have hl:z.length=zv.size:=by simpa using h.length
 refine TW (by simp [Cl,hl]) (fun i c v h1 h2=>?_)
 simp only [Cl,List.getElem?_map]at h1
 simp only [Array.toList_map,List.getElem?_map,Array.toList_range]at h2
 by_cases hi:i<k*z.length
 ·rw [List.getElem?_range (by omega)]at h1
  rw [List.getElem?_range (by rw [←hl];omega)]at h2
  simp only [Option.map_some,Option.some.injEq]at h1 h2
  have hm:i % z.length<z.length:=Nat.mod_lt _ hz
  obtain⟨v',q1,q2⟩:=h.get (i % z.length) z[i % z.length] (by simp [hm])
  have e1:c=z[i % z.length]:=by rw [←h1];simp [List.getD_eq_getElem?_getD,hm]
  have e2:v=v':=by
   rw [←h2, ←hl]
   have:zv[i % z.length]? =some v':=by simpa using q1
   simp [Array.getElem!_eq_getD,Array.getD_eq_getD_getElem?,this]
  rw [e1,e2];exact q2
 ·rw [List.getElem?_eq_none (by simp;omega)]at h1
  cases h1
theorem eV: ∀ {v:Value} {c:C},GM v=some c→c.pure=true:=by
 intro v c h
 unfold GM at h
 split at h<;>first | (cases h;done) | (injection h with h;subst h;rfl)
theorem TX: ∀ {vs:List Value} {cs:List C},Em vs=some cs→AH cs=true
 | [],cs,h=>by simp [Em]at h;subst h;rfl
 | v::vs,cs,h=>by
   unfold Em at h
   split at h
   ·rename_i c cs' h1 h2
    injection h with h;subst h
    simp only [AH,eV h1,TX h2,Bool.and_self]
   ·cases h
theorem eW {z:List C} (h:AH z=true) (k:Nat):AH (Cl z k)=true:=NG _ (fun _=>nV _ h) _
def Wg:Value→Option C
 | .slice none 0 0=>some .nils
 | v=>GM v
def G3:List Value→Option (List C)
 | []=>some []
 | v::vs=>match Wg v,G3 vs with
   | some c,some cs=>some (c::cs)
   | _,_=>none
theorem eX {w:World} {G:Bj}: ∀ {v:Value} {c:C},Wg v=some c→Ap w G c v:=by
 intro v c h
 unfold Wg at h
 split at h
 ·injection h with h;subst h;simp [Ap]
 ·exact O0 h
theorem Ma {w:World} {G:Bj}: ∀ {vs:List Value} {cs:List C},G3 vs=some cs→At w G cs vs
 | [],cs,h=>by simp [G3]at h;subst h;simp [At]
 | v::vs,cs,h=>by
   unfold G3 at h
   split at h
   ·rename_i c cs' h1 h2
    injection h with h;subst h
    simp only [At]
    exact⟨eX h1,Ma h2⟩
   ·cases h
def TY (P:Program) (t:TypeId):Option (List C):=
 match P.info? t with
 | some i=>match i.zero with
   | some z=>G3 z.cells.toList
   | none=>none
 | none=>none
theorem Wh {P:Program} {t:TypeId} {cs:List C} (h:TY P t=some cs): ∃ i z,P.info? t=some i∧i.zero=some z∧G3 z.cells.toList=some cs:=by
 unfold TY at h
 split at h
 ·rename_i i hi
  split at h
  ·rename_i z hz;exact⟨i,z,hi,hz,h⟩
  ·cases h
 ·cases h
def Gm:C→C
 | .nils => .sl 0 []
 | c=>c
def V.weak:V→V
 | .c x=> .c (Gm x)
 | .agg cs=> .agg (cs.map Gm)
 | v=>v
def TZ (p:Nat×V):Nat×V:=(p.1,p.2.weak)
theorem JS {w:World} {G:Bj} {c:C} {v:Value} (h:Ap w G c v):Ap w G (Gm c) v:=by
 cases c<;>try exact h
 simp only [Ap]at h
 subst h
 simp only [Gm,Ap]
 exact⟨rfl,none,0,rfl,Nat.le_refl _,Nat.zero_le _,fun _=>trivial, .inl trivial⟩
theorem R6 {w:World} {G:Bj}: ∀ {cs:List C} {vs:List Value},At w G cs vs→At w G (cs.map Gm) vs
 | [],[],_=>by simp [At]
 | [],_::_,h=>by simp [At]at h
 | _::_,[],h=>by simp [At]at h
 | c::cs,v::vs,h=>by
   simp only [At]at h
   simp only [List.map_cons,At]
   exact⟨JS h.1,R6 h.2⟩
theorem ob {w:World} {G:Bj} {x:V} {v:Value} (h:Ak w G x v):Ak w G x.weak v:=by
 cases x with
 | c x=>simp only [V.weak,Ak]at h ⊢;exact JS h
 | agg cs=>
   simp only [V.weak,Ak]at h ⊢
   obtain⟨arr,e,hr⟩:=h
   exact⟨arr,e,R6 hr⟩
 | tup _=>exact h
 | g _ _=>exact h
 | undef=>exact h
structure zs (P:Program) (F:Fr) (o:Oper) (a:Act) (w:World) (st':St):Prop where
 out: ∃ nx w' G',(execOp a.eval o).run P w= .ok nx w'∧((∃ v,nx= .value v∧R F st' (a.put o.dst v) w' G')∨(nx= .skip ∧R F st' (a.put o.dst Go.undef) w' G'))
def St.parts (st:St) (g:Bool) (ps:List (Nat×Operand)):Prop×List (Nat×V):=
 match ps with
 | []=>(True,[])
 | (i,x)::r=>((st.arg g x).1∧(St.parts st g r).1,(i,(st.arg g x).2)::(St.parts st g r).2)
theorem R.parts {F:Fr} {st:St} {a:Act} {w:World} {G:Bj} (h:R F st a w G) {g:Bool} (hg:g=true): ∀ {ps:List (Nat×Operand)},(st.parts g ps).1→PZ w G (st.parts g ps).2 (ps.map fun(i,x)=>(i,a.eval x))
 | [],_=>by simp [St.parts,PZ]
 | (i,x)::r,hs=>by
   simp only [St.parts]at hs ⊢
   simp only [List.map_cons,PZ]
   exact⟨trivial,h.arg hg hs.1,h.parts hg hs.2⟩
def xn (P:Program) (t:TypeId) (i:Nat):Option (Nat×Nat):=
 match P.underlying t with
 | some (.array _ e)=>match P.info? e with
   | some inf=>some (i*inf.size,inf.size)
   | none=>none
 | some (.struct fs)=>match fs.toList.mapM (fun f=>(P.info? f.type).map fun i=>(f.offset,i.size))with
   | some ps=>ps[i]?
   | none=>none
 | _=>none
def Ov (P:Program) (t:TypeId):Bool:=
 match P.underlying t with
 | some (.array _ e)=>(P.info? e).isSome
 | some (.struct fs)=>(fs.toList.mapM (fun f=>(P.info? f.type).map fun i=>(f.offset,i.size))).isSome
 | _=>false
def Mb (P:Program) (st:St) (g:Bool) (t:TypeId) (ps:List (Nat×Operand)):Prop×V:=
 match TY P t with
 | some z=>match HD (xn P t) z (st.parts g ps).2 with
   | some cs=>((st.parts g ps).1∧Ov P t=true, .agg cs)
   | none=>no
 | none=>no
def P0 (st:St) (n:Nat):V→Option (Nat×List C×Bool)
 | .c (.sl m cs)=>if cs.length=m*n then some (m,cs,true)else none
 | .c (.osl id)=>match st.look id with
   | some e=>match e.row with
     | some (_,n',m)=>if n'=n then some (m,e.cs,e.pu)else none
     | none=>none
   | none=>none
 | _=>none
def EC (P:Program) (t:TypeId):Option (TypeId×Nat×Nat):=
 match P.underlying t with
 | some (.slice e)=>match P.info? e with
   | some i=>match i.zero with
     | some z=>if z.cells.size=i.size then some (e,i.size,i.bytes)else none
     | none=>none
   | none=>none
 | _=>none
def FF (P:Program) (st:St) (T:TypeId) (x y:V):Prop×St:=
 match x,y.cells,Or P T with
 | .c (.ptr id off),some cs,some (_,n)=>match st.look id with
   | some e=>(cs.length=n∧off+n≤e.cs.length,st.setCs id (e.cs.take off++cs++e.cs.drop (off+cs.length)) (AH cs))
   | none=>(False,st)
 | _,_,_=>(False,st)
def E3 (P:Program) (st:St) (d:Nat) (t:TypeId) (s x:V):Prop×St:=
 match s,EC P t with
 | .c (.osl id),some (E,n,by')=>match st.look id,P0 st n x with
   | some e,some (m,cs,q)=>match e.row with
     | some (E',n',len)=>(E'=E∧n'=n∧0<n∧(len+m)*by'≤140737488355328∧len+m≤maxLen,(st.new ⟨id,some (E,n,len+m),e.cs++cs,e.pu&&q⟩).put (some d) (.c (.osl id)))
     | none=>(False,st)
   | _,_=>(False,st)
 | _,_=>(False,st)
def T0 (P:Program) (st:St) (d:Nat) (t:TypeId) (x y:V):Prop×St:=
 match x,y,Eo P t with
 | .c (.bsl id off len), .c (.bsl id2 off2 len2),some (_,1)=>match st.look id,st.look id2 with
   | some e,some e2=>(off+Nat.min len2 len≤e.cs.length∧off2+Nat.min len2 len≤e2.cs.length,
    (st.setCs id (e.cs.take off++(e2.cs.drop off2).take (Nat.min len2 len)++e.cs.drop (off+((e2.cs.drop off2).take (Nat.min len2 len)).length)) (AH ((e2.cs.drop off2).take (Nat.min len2 len)))).put (some d) (.c (.int .i64 (Nat.min len2 len:Nat))))
   | _,_=>(False,st)
 | _,_,_=>(False,st)
def Mc (P:Program) (st:St) (d:Nat) (t:TypeId) (l c:V):Prop×St:=
 match l,c,EC P t with
 | .c (.int _ l), .c (.int _ c),some (E,n,by')=>match L8 P E with
   | some z=>(0≤l∧l≤c∧c*by'≤140737488355328∧c≤maxLen∧z.length=n∧0<n,(st.new ⟨d::st.pre,some (E,n,l.toNat),Cl z l.toNat,true⟩).put (some d) (.c (.osl (d::st.pre))))
   | none=>(False,st)
 | _,_,_=>(False,st)
def B3 (P:Program) (st:St) (d:Nat) (t:TypeId) (len:Nat) (ps:List (Nat×Operand)):Prop×St:=
 match EC P t with
 | some (E,n,_)=>match L8 P E with
   | some z=>match HD (fun i=>some (i*n,n)) (Cl z len) ((st.parts true ps).2.map TZ)with
     | some cs=>((st.parts true ps).1∧z.length=n∧0<n∧len*n≤2 ^ 24,(st.new ⟨d::st.pre,some (E,n,len),cs,AH cs⟩).put (some d) (.c (.osl (d::st.pre))))
     | none=>(False,st)
   | none=>(False,st)
 | none=>(False,st)
def jG:Operand→V→V
 | .const (.slice none 0 0),_=> .c .nils
 | _,v=>v
def U5 (st:St) (x v:V):V:=
 match v with
 | .c .nils =>match x with
   | .c (.ptr id _)=>match st.look id with
     | some e=>match e.row with
       | some _=> .c (.sl 0 [])
       | none=>v
     | none=>v
   | _=>v
 | _=>v
theorem eY {w:World} {G:Bj} {st:St} {x v:V} {u:Value} (h:Ak w G v u):Ak w G (U5 st x v) u:=by
 unfold U5
 split
 ·have h2:Ak w G (.c (.sl 0 [])) u:=by
   simp only [Ak]at h ⊢
   exact JS h
  split
  ·split
   ·split
    ·exact h2
    ·exact h
   ·exact h
  ·exact h
 ·exact h
theorem eZ {w:World} {G:Bj} {a:Act} {y:Operand} {v:V} (h:Ak w G v (a.eval y)):Ak w G (jG y v) (a.eval y):=by
 unfold jG
 split
 ·simp only [Ak,Ap];rfl
 ·exact h
def ef (P:Program) (st:St) (o:Oper):Prop×St:=
 match o.op with
 | .store T x y=>let r:=FF P st T (st.arg true x).2 (U5 st (st.arg true x).2 (jG y (st.arg true y).2))
   ((st.arg true x).1∧(st.arg true y).1∧r.1,r.2.put o.dst .undef)
 | op=>match o.dst with
   | none=>(False,st)
   | some d=>match op with
     | .alloc T=>match TY P T with
       | some cs=>(True,(st.new ⟨d::st.pre,none,cs,false⟩).put (some d) (.c (.ptr (d::st.pre) 0)))
       | none=>(False,st)
     | .box T x=>match (st.arg true x).2.cells with
       | some cs=>((st.arg true x).1∧T=T,(st.new ⟨d::st.pre,none,cs,false⟩).put (some d) (.c (.ptr (d::st.pre) 0)))
       | none=>(False,st)
     | .assign (.const (.slice none 0 0))=>match Eo P o.type with
       | some (E,n)=>(True,(st.new ⟨d::st.pre,some (E,n,0),[],true⟩).put (some d) (.c (.osl (d::st.pre))))
       | none=>(False,st)
     | .buildSlice t len ps=>B3 P st d t len ps.toList
     | .makeSlice t l c=>let r:=Mc P st d t (st.arg true l).2 (st.arg true c).2
       ((st.arg true l).1∧(st.arg true c).1∧r.1,r.2)
     | .call c=>match c.callee,c.args.toList,c.argTypes.toList with
       | .builtin .append,[s,x],[t,t']=>let r:=E3 P st d t (st.arg true s).2 (st.arg true x).2
         ((st.arg true s).1∧(st.arg true x).1∧t=t'∧r.1,r.2)
       | .builtin .copy,[s,x],[t,t']=>let r:=T0 P st d t (st.arg true s).2 (st.arg true x).2
         ((st.arg true s).1∧(st.arg true x).1∧t'=t'∧r.1,r.2)
       | _,_,_=>(False,st)
     | _=>(False,st)
theorem ZL {w:World} {G:Bj}: ∀ {xs:List (Nat×V)} {ys:List (Nat×Value)},PZ w G xs ys→PZ w G (xs.map TZ) ys
 | [],[],h=>h
 | (i,x)::xs,(j,v)::ys,h=>by
   simp only [PZ]at h
   simp only [List.map_cons,TZ,PZ]
   exact⟨h.1,ob h.2.1,ZL h.2.2⟩
 | [],_::_,h=>by simp [PZ]at h
 | _::_,[],h=>by simp [PZ]at h
theorem bZ {P:Program} {F:Fr} {st:St} {a:Act} {w:World} {G:Bj} (h:R F st a w G) {g:Bool} (hg:g=true) {t:TypeId} {ps:Array (Nat×Operand)} (hs:(Mb P st g t ps.toList).1):
 ∃ v,Ak w G (Mb P st g t ps.toList).2 v∧ ∀ w',(Instr.build t (ps.map fun(i,x)=>(i,a.eval x))).run P w'= .ok v w':=by
 unfold Mb at *
 split at hs
 ·rename_i z hz
  split at hs
  ·rename_i cs hf
   obtain⟨i,zv,hi,hzv,hc⟩:=Wh hz
   obtain⟨arr',q1,q2⟩:=O6 hf (h.parts hg hs.1) (Ma (w:=w) (G:=G) hc)
   refine⟨.agg arr',⟨arr',rfl,q2⟩,fun w'=>run_build w' t _ arr' ?_⟩
   have hok:=hs.2
   unfold Ov at hok
   unfold Program.built
   rw [hi]
   split at hok
   ·rename_i n e hu
    cases hie:P.info? e with
    | none=>rw [hie]at hok;cases hok
    | some ie=>
      simp only [hu,hzv,hie]
      have e1:xn P t=fun i=>some (i*ie.size,ie.size):=by
       funext i;unfold xn;rw [hu];simp [hie]
      rw [e1]at q1
      simpa using q1
   ·rename_i fs hu
    cases hm:fs.toList.mapM (fun f=>(P.info? f.type).map fun i=>(f.offset,i.size))with
    | none=>rw [hm]at hok;cases hok
    | some pl=>
      simp only [hu,hzv,hm]
      have e1:xn P t=fun i=>pl[i]? :=by
       funext i;unfold xn;rw [hu];simp [hm]
      rw [e1]at q1
      simpa using q1
   ·cases hok
  ·exact hs.elim
 ·exact hs.elim
theorem IL {P:Program} {t e:TypeId} {n by':Nat} (h:EC P t=some (e,n,by')):
 ∃ i z,P.underlying t=some (.slice e)∧P.info? e=some i∧i.zero=some z∧i.size=n∧i.bytes=by'∧z.cells.size=n:=by
 unfold EC at h
 split at h
 ·rename_i e' hu
  split at h
  ·rename_i i hi
   split at h
   ·rename_i z hz
    split at h
    ·rename_i hsz
     simp only [Option.some.injEq,Prod.mk.injEq]at h
     obtain⟨rfl,rfl,rfl⟩:=h
     exact⟨i,z,hu,hi,hz,rfl,rfl,hsz⟩
    ·cases h
   ·cases h
  ·cases h
 ·cases h
theorem P1 {P:Program} {F:Fr} {st:St} {a:Act} {w:World} {G:Bj} (h:R F st a w G) {T:TypeId} {x y:V} {u v:Value} (hx:Ak w G x u) (hy:Ak w G y v) (hs:(FF P st T x y).1):
 ∃ w',(Instr.storeAt T u v).run P w= .ok () w'∧R F (FF P st T x y).2 a w' G:=by
 unfold FF at *
 split at hs
 ·rename_i id off cs ag n hc ht
  split at hs
  ·rename_i e he
   obtain⟨h1,h2⟩:=hs
   obtain⟨d,i,hu,hd,hi,hsz⟩:=Ep ht
   simp only [Ak,Ap]at hx
   obtain⟨b,hb,rfl⟩:=hx
   have hv:=HC hy hc
   have hlv:=hv.length
   obtain⟨cur,T',hheap,hfit,hR⟩:=h.stored he hb (off:=off) (xs:=cs) hv (by omega)
   refine⟨_,?_,hR⟩
   have hst:=run_storeCells_at P b off T' v.cells.toList 0 cur w hheap (by simpa using hfit) (At.one hv)
   simp only [Nat.add_zero]at hst
   have hne: ¬v.cells.size ≠ i.size:=by simp at hlv ⊢;omega
   simp [Instr.storeAt,Instr.sureAddr,storeVar,sizeOf,typeInfo,program,Sem.run,hi,Sem.run_bind,hst]
   simp at hlv
   omega
  ·exact hs.elim
 ·exact hs.elim
theorem fa {F:Fr} {st:St} {a:Act} {w:World} {G:Bj} (h:R F st a w G) {n m:Nat} {x:V} {cs:List C} {q:Bool} {u:Value} (hs:P0 st n x=some (m,cs,q)) (hx:Ak w G x u):
 (q=true→AH cs=true)∧ ∃ ad cap vs,u= .slice ad m cap∧At w G cs vs∧vs.length=m*n∧(ad=none→m=0)∧ ∀ b,ad=some b→ ∀ j v,vs[j]? =some v→w.cell? (b.add j)=some v:=by
 unfold P0 at hs
 split at hs
 ·split at hs
  ·rename_i hl
   simp only [Option.some.injEq,Prod.mk.injEq]at hs
   obtain⟨rfl,rfl,rfl⟩:=hs
   simp only [Ak,Ap]at hx
   refine⟨fun _=>hx.1,?_⟩
   obtain⟨_,ad,cap,rfl,_,_,h0,h1 | ⟨b,o,rfl,_,_,hr⟩⟩:=hx
   ·have:=h0 h1;subst this
    exact⟨ad,cap,[],rfl,by simp [At],by rw [h1];simp,fun _=>h1,fun b _ j v hv=>by simp at hv⟩
   ·obtain⟨vs,q1,q2⟩:=hr.list
    have:=q1.length
    exact⟨_,cap,vs,rfl,q1,by omega,(by simp),fun b' hb' j v hv=>by injection hb' with hb';subst hb';rw [Addr.add_mid];exact q2 j v hv⟩
  ·cases hs
 ·split at hs
  ·rename_i e hlk
   split at hs
   ·rename_i E n' m' hrow
    split at hs
    ·rename_i hn
     simp only [Option.some.injEq,Prod.mk.injEq]at hs
     obtain⟨rfl,rfl,rfl⟩:=hs
     obtain⟨hm,hid⟩:=B6 hlk
     refine⟨h.pures e hm,?_⟩
     have hE:=h.store e hm
     obtain⟨v,vs,k1,k2,k3,k4⟩:=L9 hrow hE
     simp only [Ak,Ap]at hx
     rw [hid]at k1
     rw [k1]at hx
     obtain⟨hx,_⟩:=hx
     injection hx with hx;subst hx
     rcases k4 with ⟨k4,k5⟩ | ⟨p,rfl,q0,rfl,_⟩
     rotate_left
     ·exact⟨_,_,[],by rw [q0],k3,by rw [q0];simp,(by simp),fun b _ j v hv=>by simp at hv⟩
     rcases k4.2 with ⟨q,q0⟩ | ⟨g,cap,cur,q,_⟩
     ·have:vs=[]:=by
       have:=k4.1;rw [q0]at this;simpa using this
      subst this
      exact⟨none,0,[],by rw [q,q0],k3,by rw [q0];simp,fun _=>q0,fun b hb=>by cases hb⟩
     ·refine⟨_,cap,vs,q,k3,by rw [k4.1,hn],(by simp),fun b hb j v hv=>?_⟩
      injection hb with hb;subst hb
      exact k4.cells (by rw [q];rfl) j v hv
    ·cases hs
   ·cases hs
  ·cases hs
 ·cases hs
theorem YI {P:Program} {F:Fr} {st:St} {a:Act} {w:World} {G:Bj} (h:R F st a w G) {d:Nat} {t ty:TypeId} {s x:V} {u v:Value} (hx:Ak w G s u) (hy:Ak w G x v) (hs:(E3 P st d t s x).1):
 ∃ r w' G',(Builtin.append_ #[t,t] ty #[u,v]).run P w= .ok r w'∧R F (E3 P st d t s x).2 (a.put (some d) r) w' G':=by
 unfold E3 at *
 split at hs
 ·rename_i id E n by' hsel
  split at hs
  ·rename_i e m cs q hlk hsrc
   split at hs
   ·rename_i E' n' len hrow
    obtain⟨rfl,rfl,hn0,hbytes,hmax⟩:=hs
    obtain⟨i,z,hu,hi,hz,hsz,hby,hzs⟩:=IL hsel
    obtain⟨hm,hid⟩:=B6 hlk
    obtain⟨u',xs,k1,k2,k3,k4⟩:=L9 hrow (h.store e hm)
    simp only [Ak,Ap]at hx
    rw [hid]at k1
    rw [k1]at hx
    obtain⟨hx,_⟩:=hx
    injection hx with hx;subst hx
    obtain⟨hqp,ad,cap,us,rfl,q1,q2,q3,q4⟩:=fa h hsrc hy
    rcases k4 with ⟨k4,k5⟩ | ⟨p,rfl,rfl,rfl,k5⟩
    rotate_left
    ·rw [hid]at k5
     have hcs:e.cs=[]:=List.length_eq_zero_iff.1 (by simpa using k3.length)
     by_cases hm0:m=0
     ·subst hm0
      have hus:us=[]:=by simpa using q2
      subst hus
      have hc0:cs=[]:=List.length_eq_zero_iff.1 (by simpa using q1.length)
      subst hc0
      have hrun:(Builtin.append_ #[t,t] ty #[.slice (some p) 0 0, .slice ad 0 cap]).run P w= .ok (.slice (some p) 0 0) w:=by
       cases ad<;>simp [Builtin.append_,run_underlying hu,sizeOf,typeInfo,program,Sem.run,hi,Builtin.lenOf,Builtin.firstCells,storeCells,loadCells,loadCellsFrom]
      obtain⟨G',g1,g2⟩:=h.appended0 (id:=id) (e:=e) (E:=E') (n:=n') (p:=p) (e.pu&&q) hcs
      refine⟨_,w,G',hrun,?_⟩
      exact R.put (d:=some d) g1 (show Ak w G' (V.c (C.osl id)) (.slice (some p) 0 0) by simp only [Ak,Ap];exact⟨g2,rfl⟩)
     ·obtain⟨b,rfl⟩: ∃ b,ad=some b:=by
       cases ad with
       | none=>exact absurd (q3 rfl) hm0
       | some b=>exact⟨b,rfl⟩
      obtain⟨r,w',hrun,hown,hg,hfr⟩:=LD (P:=P) (w:=w) t ty E' i z n' by' hu hi hz hsz hby hzs hn0 p b m cap us q2 (q4 b rfl) (by omega) (by omega) (by simpa using hbytes)
      obtain⟨G',g1,g2,g3⟩:=h.appended (len:=0) (v:= .slice none 0 0) (xs:=[]) hlk hqp k5.symm k3 q1 ⟨by simp, .inl ⟨rfl,rfl⟩⟩ (by simpa using hown) hg (.inr hfr)
      refine⟨r,w',G',hrun,?_⟩
      exact R.put (d:=some d) g1 (show Ak w' G' (V.c (C.osl id)) r by simp only [Ak,Ap];exact⟨g2,g3⟩)
    rw [hid]at k5
    have main: ∀ r w',(Builtin.append_ #[t,t] ty #[u', .slice ad m cap]).run P w= .ok r w'→w'.ownsRow 0 E' n' r (len+m) (xs++us)→w.grownBy w' u'.ownBlock→(r.ownBlock=u'.ownBlock∨ ∀ b,r.ownBlock=some b→w.heap.size≤b)→
     ∃ r w' G',(Builtin.append_ #[t,t] ty #[u', .slice ad m cap]).run P w= .ok r w'∧R F ((st.new ⟨id,some (E',n',len+m),e.cs++cs,e.pu&&q⟩).put (some d) (.c (.osl id))) (a.put (some d) r) w' G':=by
     intro r w' hrun hown hg hfr
     obtain⟨G',g1,g2,g3⟩:=h.appended hlk hqp k5 k3 q1 k4 hown hg hfr
     exact⟨r,w',G',hrun,g1.put (by simp only [Ak,Ap];exact⟨g2,g3⟩)⟩
    cases ad with
    | some b=>
      obtain⟨r,w',hrun,hown,hg,hfr⟩:=LC (P:=P) (w:=w) t ty E' i z n' by' hu hi hz hsz hby hzs hn0 u' len xs k4 b m cap us q2 (q4 b rfl) (At.one q1) hmax hbytes
      exact main r w' hrun hown hg hfr
    | none=>
      have hm0:=q3 rfl
      subst hm0
      have hus:us=[]:=by simpa using q2
      subst hus
      refine main u' w ?_ (by simpa using k4) ⟨rfl,rfl,rfl,Nat.le_refl _,fun _ _ _=>rfl⟩ (.inl rfl)
      have hcap: ∃ bs c,u'= .slice bs len c∧len≤c∧(∀ b,bs=some b→b.spot=none):=by
       rcases k4.2 with ⟨q,q0⟩ | ⟨g,c,cur,q,_,_,q5,_⟩
       ·exact⟨none,0,by rw [q,q0],by omega,by simp⟩
       ·exact⟨_,c,q,q5,by intro b hb;injection hb with hb;subst hb;rfl⟩
      obtain⟨bs,c,rfl,hc,_⟩:=hcap
      cases bs<;>simp [Builtin.append_,run_underlying hu,sizeOf,typeInfo,program,Sem.run,hi,Builtin.lenOf,Builtin.firstCells,hc,storeCells]
   ·exact hs.elim
  ·exact hs.elim
 ·exact hs.elim
theorem fb {P:Program} {F:Fr} {st:St} {a:Act} {w:World} {G:Bj} (h:R F st a w G) {d:Nat} {t t' ty:TypeId} {x y:V} {u v:Value} (hx:Ak w G x u) (hy:Ak w G y v) (hs:(T0 P st d t x y).1):
 ∃ r w' G',(Builtin.copy_ #[t,t'] ty #[u,v]).run P w= .ok r w'∧R F (T0 P st d t x y).2 (a.put (some d) r) w' G':=by
 unfold T0 at *
 split at hs
 ·rename_i id off len id2 off2 len2 E hsel
  split at hs
  ·rename_i e e2 he he2
   obtain⟨q1,q2⟩:=hs
   obtain⟨hu,inf,hi,hsz⟩:=O1 hsel
   simp only [Ak,Ap]at hx hy
   obtain⟨b,cap,hb,rfl,_⟩:=hx
   obtain⟨b2,cap2,hb2,rfl,_⟩:=hy
   obtain⟨hm2,hid2⟩:=B6 he2
   obtain⟨cur2,T2,_,_,hrow2⟩:=(h.store e2 hm2).row (VD he2) (by rw [hid2];exact hb2)
   obtain⟨vs,k1,k2⟩:=((hrow2.drop off2).take (Nat.min len2 len)).list
   have hlx:=k1.length
   have hl:((e2.cs.drop off2).take (Nat.min len2 len)).length =Nat.min len2 len:=by
    rw [List.length_take,List.length_drop];exact Nat.min_eq_left (by omega)
   obtain⟨cur,T',hheap,hfit,hR⟩:=h.stored he hb (off:=off) k1 (by rw [hl];exact q1)
   have hrun:=run_copy_row (P:=P) w t t' ty E b off len cap ⟨b2,off2,none⟩ len2 cap2 cur T' vs hu (by rw [hi];simp [hsz]) hheap (by omega) (fun j v hv=>by
    have:=k2 j v hv
    rw [Addr.add_mid]
    simpa using this) hfit (At.one k1)
   refine⟨_,_,G,hrun,hR.put (d:=some d) ?_⟩
   simp only [Ak,Ap,goInt]
   rw [←hlx,hl]
  ·exact hs.elim
 ·exact hs.elim
theorem b0 {F:Fr} {w:World} {G:Bj} {id:AC} {b:Option Nat} {v:Value} (h:v.oneCell'=true):Ak w (CX F G id b (some v)) (.c (.osl id)) v:=by
 simp [Ak,Ap,CX,h]
theorem run_buildSlice' {P:Program} {w:World} {t E:TypeId} {i:TypeInfo} {zv:Value} {n len:Nat} {ps:Array (Nat×Value)} {arr':Array Value} (hu:P.underlying t=some (.slice E)) (hi:P.info? E=some i) (hz:i.zero=some zv)
 (hsz:i.size=n) (h3:0<n) (h4:len*n≤2 ^ 24) (hf:Instr.fill (fun i=>some (i*n,n)) ((Array.range (len*n)).map (zv.cells[· % zv.cells.size]!)) ps.toList=some arr'):
 (Instr.buildSlice t len ps).run P w= .ok (.slice (some ⟨w.heap.size,0,none⟩) len len) (w.alloc (.cells arr' E)):=by
 have hbig: ¬2 ^ 24<len*n:=by omega
 by_cases h0:len=0
 ·subst h0
  rw [Nat.zero_mul,Array.range_zero']at hf
  simp only [Array.map_empty]at hf
  simp [Instr.buildSlice,run_underlying hu,sizeOf,typeInfo,hi,hsz,hf,newRow,Array.range_zero']
 ·have h1: ¬len*n=0:=by
   rw [Nat.mul_eq_zero];omega
  have h2:n ≠ 0:=by omega
  simp [Instr.buildSlice,run_underlying hu,sizeOf,typeInfo,hi,hsz,hbig,zeroValue,hz,hf,newRow]
  exact fun h=>absurd h h1
theorem fc {P:Program} {F:Fr} {st:St} {a:Act} {w:World} {G:Bj} (h:R F st a w G) {d:Nat} {t:TypeId} {l c:V} {u v:Value} (hx:Ak w G l u) (hy:Ak w G c v) (hs:(Mc P st d t l c).1):
 ∃ r w' G',(Instr.makeSlice t u v).run P w= .ok r w'∧R F (Mc P st d t l c).2 (a.put (some d) r) w' G':=by
 unfold Mc at *
 split at hs
 ·rename_i k1 l k2 c E n by' hsel
  split at hs
  ·rename_i z hz
   obtain⟨h0,h1,h2,h3,h4,h5⟩:=hs
   obtain⟨i,zv,hu,hi,hzv,hsz,hby,hzs⟩:=IL hsel
   obtain⟨i',zv',hi',hzv',hc⟩:=Wb hz
   rw [hi]at hi';injection hi' with hi';subst hi'
   rw [hzv]at hzv';injection hzv' with hzv';subst hzv'
   simp only [Ak,Ap]at hx hy
   subst hx hy
   have hM:maxLen=9223372036854775807:=rfl
   have hrun:=run_make (P:=P) w t E i zv hu hi hzv k1 k2 l c h0 h1 (by rw [hby,Int.mul_comm];omega) (by omega)
   have hzr:=ZK (Kz (w:=w) (G:=G) hc) (by omega) l.toNat
   rw [hzs]at hzr
   have hle:l.toNat*n≤c.toNat*n:=Nat.mul_le_mul_right _ (by omega)
   have hrow:=h.row (d::st.pre) E n l.toNat c.toNat (Cl z l.toNat) (madeCells zv.cells (c.toNat*i.size)) _ hzr (by
    simp only [madeCells,Array.toList_map,Array.toList_range,List.length_map,List.length_range, ←List.map_take,hzs]
    rw [List.take_range,hsz,Nat.min_eq_left hle]) (by simp [Cl,h4]) (by rw [size_madeCells,hsz]) (by omega) (by omega) true (fun _=>eW (TX hc) _)
   exact⟨_,_,_,hrun,R.put (d:=some d) hrow (b0 rfl)⟩
  ·exact hs.elim
 ·exact hs.elim
theorem P2 {P:Program} {F:Fr} {st:St} {a:Act} {w:World} {G:Bj} (h:R F st a w G) {d:Nat} {t:TypeId} {len:Nat} {ps:Array (Nat×Operand)} (hs:(B3 P st d t len ps.toList).1):
 ∃ r w' G',(Instr.buildSlice t len (ps.map fun(i,x)=>(i,a.eval x))).run P w= .ok r w'∧R F (B3 P st d t len ps.toList).2 (a.put (some d) r) w' G':=by
 unfold B3 at *
 split at hs
 ·rename_i E n by' hsel
  split at hs
  ·rename_i z hz
   split at hs
   ·rename_i cs hf
    obtain⟨h1,h2,h3,h4⟩:=hs
    obtain⟨i,zv,hu,hi,hzv,hsz,hby,hzs⟩:=IL hsel
    obtain⟨i',zv',hi',hzv',hc⟩:=Wb hz
    rw [hi]at hi';injection hi' with hi';subst hi'
    rw [hzv]at hzv';injection hzv' with hzv';subst hzv'
    have hzr:=ZK (Kz (w:=w) (G:=G) hc) (by omega) len
    obtain⟨arr',q1,q2⟩:=O6 hf (ZL (h.parts rfl h1)) hzr
    have q1':Instr.fill (fun i=>some (i*n,n)) ((Array.range (len*n)).map (zv.cells[· % zv.cells.size]!)) (ps.map fun(i,x)=>(i,a.eval x)).toList =some arr':=by
     rw [hzs]at q1 ⊢;simpa using q1
    have hsize:arr'.size=len*n:=by
     have e1:=q2.length
     have e2:cs.length=(Cl z len).length :=by
      clear hzr q1 q1' q2 e1
      have hz': ∀ (l:List (Nat×V)) (b out:List C),HD (fun i=>some (i*n,n)) b l=some out→out.length=b.length:=by
       intro l
       induction l with
       | nil=>intro b out ho;simp only [HD,Option.some.injEq]at ho;rw [←ho]
       | cons p l ih=>
         intro b out ho
         obtain⟨i,v⟩:=p
         simp only [HD]at ho
         split at ho
         ·rename_i o s c hp hcs
          split at ho
          ·rename_i hb
           have:=ih _ _ ho
           simp only [List.length_append,List.length_take,List.length_drop]at this
           omega
          ·cases ho
         ·cases ho
      exact hz' _ _ _ hf
     simp [Cl,h2]at e2
     simp at e1
     omega
    have hcl:cs.length=len*n:=by have:=q2.length;simp at this;omega
    have hM:maxLen=9223372036854775807:=rfl
    have hlen:len≤maxLen:=by
     have:len*1≤len*n:=Nat.mul_le_mul_left _ h3
     omega
    have hrow:=h.row (d::st.pre) E n len len cs arr' arr'.toList q2 (by rw [List.take_length]) hcl hsize (Nat.le_refl _) hlen (AH cs) id
    exact⟨_,_,_,run_buildSlice' hu hi hzv hsz h3 h4 q1',R.put (d:=some d) hrow (b0 rfl)⟩
   ·exact hs.elim
  ·exact hs.elim
 ·exact hs.elim
theorem fd {P:Program} {F:Fr} {st:St} {a:Act} {w:World} {G:Bj} (h:R F st a w G) {o:Oper} (hs:(ef P st o).1):zs P F o a w (ef P st o).2:=by
 obtain⟨dst,op,ty,pos,aft,gd⟩:=o
 cases op<;>cases dst<;>simp only [ef]at hs ⊢ <;>try (exact hs.elim)
 case store.none T x y=>
  obtain⟨w',h1,h2⟩:=P1 h (h.arg rfl hs.1) (eY (eZ (h.arg rfl hs.2.1))) hs.2.2
  exact⟨.skip,w',G,by simp [execOp,h1], .inr ⟨rfl,h2⟩⟩
 case store.some T x y d=>
  obtain⟨w',h1,h2⟩:=P1 h (h.arg rfl hs.1) (eY (eZ (h.arg rfl hs.2.1))) hs.2.2
  exact⟨.skip,w',G,by simp [execOp,h1], .inr ⟨rfl,R.put (d:=some d) h2 (by simp [Ak])⟩⟩
 case alloc.some T d=>
  split at hs
  ·rename_i cs hz
   obtain⟨i,z,hi,hzv,hc⟩:=Wh hz
   have hb:=h.box (d::st.pre) T cs z.cells (Ma hc) false (fun q=>by cases q)
   refine⟨.value (.pointer (some ⟨w.heap.size,0,none⟩)),_,_,?_, .inl ⟨_,rfl,R.put (d:=some d) hb (by simp [Ak,Ap,CX])⟩⟩
   simp [execOp,Instr.alloc,run_zeroValue' hi hzv,newVar,newRow]
  ·exact hs.elim
 case box.some T x d=>
  split at hs
  ·rename_i cs hc
   have hv:=HC (h.arg rfl hs.1) hc
   have hb:=h.box (d::st.pre) T cs (a.eval x).cells hv false (fun q=>by cases q)
   refine⟨.value (.pointer (some ⟨w.heap.size,0,none⟩)),_,_,?_, .inl ⟨_,rfl,R.put (d:=some d) hb (by simp [Ak,Ap,CX])⟩⟩
   simp [execOp,Instr.box,newVar,newRow]
  ·exact hs.elim
 case assign.some x d=>
  split at hs
  all_goals first
   | (rename_i q;cases q;done)
   | (rename_i q
      cases q
      split at hs
      ·rename_i E n hE
       have hb:=h.nilRow (d::st.pre) E n
       exact⟨.value (.slice none 0 0),w,_,by simp [execOp,Act.eval], .inl ⟨_,rfl,R.put (d:=some d) hb (b0 rfl)⟩⟩
      ·exact hs.elim)
   | exact hs.elim
 case buildSlice.some t len ps d=>
  obtain⟨r,w',G',q1,q2⟩:=P2 (d:=d) h hs
  exact⟨.value r,w',G',by simp [execOp,q1], .inl ⟨r,rfl,q2⟩⟩
 case makeSlice.some t l c d=>
  obtain⟨r,w',G',q1,q2⟩:=fc (d:=d) h (h.arg rfl hs.1) (h.arg rfl hs.2.1) hs.2.2
  exact⟨.value r,w',G',by simp [execOp,q1], .inl ⟨r,rfl,q2⟩⟩
 case call.some c d=>
  split at hs
  ·rename_i s x t t' h1 h2 h3
   obtain⟨q1,q2,q3,q4⟩:=hs
   subst q3
   have ea:c.args= #[s,x]:=by apply Array.ext';simpa using h2
   have et:c.argTypes= #[t,t]:=by apply Array.ext';simpa using h3
   obtain⟨r,w',G',k1,k2⟩:=YI (d:=d) (ty:=ty) h (h.arg rfl q1) (h.arg rfl q2) q4
   exact⟨.value r,w',G',by simp [execOp,resolve,h1,ea,et,invoke,builtin,k1], .inl ⟨r,rfl,k2⟩⟩
  ·rename_i s x t t' h1 h2 h3
   obtain⟨q1,q2,_,q4⟩:=hs
   have ea:c.args= #[s,x]:=by apply Array.ext';simpa using h2
   have et:c.argTypes= #[t,t']:=by apply Array.ext';simpa using h3
   obtain⟨r,w',G',k1,k2⟩:=fb (d:=d) (t':=t') (ty:=ty) h (h.arg rfl q1) (h.arg rfl q2) q4
   exact⟨.value r,w',G',by simp [execOp,resolve,h1,ea,et,invoke,builtin,k1], .inl ⟨r,rfl,k2⟩⟩
  ·exact hs.elim
end Go.PL
namespace Go.PL
open Go Go.RowKit
def ent (P:Program) (f:FuncId):Bool:=
 match P.funcs[f]? with
 | some fn=> !(fn.name== "runtime.NumGoroutine")&&fn.body.isSome
 | none=>false
structure AQ (P:Program) (I:World→Prop) (f:FuncId) (args:List V) (Q:V→Prop):Prop where
 ent:ent P f=true
 run: ∀ (w:World) (vs:Array Value) (av:Nat→Prop),I w→(∀ b,av b→b<w.heap.size)→AJ w (im av) args vs.toList→
  Calls P f vs w (fun e w'=> ∃ v r,e= .returned v∧Q r∧r.pure=true∧Ak w' (im av) r v∧Below w.heap.size w w')
theorem run_callFunc' {P:Program} {f:FuncId} (h:ent P f=true) (args:Array Value) (w:World):(callFunc f args).run P w= .ok (.enter f args) w:=by
 unfold ent at h
 split at h
 ·rename_i fn hf
  simp only [Bool.and_eq_true,Bool.not_eq_true']at h
  have h2: ¬fn.body=none:=by
   intro hb;rw [hb]at h;simp at h
  have h1: ¬fn.name= "runtime.NumGoroutine" :=by simpa using h.1
  simp [callFunc,program,Sem.run,hf,h1,h2]
 ·cases h
mutual
def V.flat:V→Bool
 | .c x=>x.flat
 | .agg cs=>cs.all C.flat
 | .tup vs=>Jo vs
 | _=>false
def Jo:List V→Bool
 | []=>true
 | v::vs=>v.flat&&Jo vs
end
mutual
def fe:V→Value
 | .c x=>Hz x
 | .agg cs=> .agg (cs.map Hz).toArray
 | .tup vs=> .tuple (ff vs).toArray
 | _=>Go.undef
def ff:List V→List Value
 | []=>[]
 | v::vs=>fe v::ff vs
end
theorem R7 {w:World} {G:Bj}: ∀ {cs:List C} {vs:List Value},cs.all C.flat=true→(At w G cs vs↔vs=cs.map Hz)
 | [],[],_=>by simp [At]
 | [],_::_,_=>by simp [At]
 | _::_,[],_=>by simp [At]
 | c::cs,v::vs,h=>by
   simp only [List.all_cons,Bool.and_eq_true]at h
   simp only [At,List.map_cons,List.cons.injEq,Bm h.1,R7 h.2]
mutual
theorem EM {w:World} {G:Bj}: ∀ {x:V} {v:Value},x.flat=true→(Ak w G x v↔v=fe x)
 | .c x,v,h=>by simp only [Ak,fe];exact Bm (by simpa only [V.flat] using h)
 | .agg cs,v,h=>by
   simp only [Ak,fe]
   constructor
   ·rintro⟨arr,rfl,hr⟩
    rw [R7 (by simpa only [V.flat] using h)]at hr
    rw [←hr]
   ·intro e
    exact⟨_,e,by rw [R7 (by simpa only [V.flat] using h)]⟩
 | .tup vs,v,h=>by
   simp only [Ak,fe]
   constructor
   ·rintro⟨arr,rfl,hr⟩
    rw [KC (by simpa only [V.flat] using h)]at hr
    rw [←hr]
   ·intro e
    exact⟨_,e,by rw [KC (by simpa only [V.flat] using h)]⟩
 | .g _ _,_,h=>by simp [V.flat]at h
 | .undef,_,h=>by simp [V.flat]at h
theorem KC {w:World} {G:Bj}: ∀ {xs:List V} {vs:List Value},Jo xs=true→(AJ w G xs vs↔vs=ff xs)
 | [],vs,_=>by simp only [AJ,ff]
 | x::xs,vs,h=>by
   simp only [Jo,Bool.and_eq_true]at h
   simp only [AJ,ff]
   constructor
   ·rintro⟨v,r,rfl,h1,h2⟩
    rw [(EM h.1).1 h1,(KC h.2).1 h2]
   ·intro e
    exact⟨_,_,e,(EM h.1).2 rfl,(KC h.2).2 rfl⟩
end
def IM (st:St):C→C
 | .osl id=>match st.look id with
   | some e=>match e.row with
     | some (_,_,len)=>if e.pu then .sl len e.cs else .any
     | none=> .any
   | none=> .any
 | .nils => .sl 0 []
 | c=>c
def BM (st:St):V→V
 | .c x=> .c (IM st x)
 | .agg cs=> .agg (cs.map (IM st))
 | v=>v
def P3:C→List AC
 | .osl id=>[id]
 | _=>[]
def jH:V→List AC
 | .c x=>P3 x
 | .agg cs=>cs.flatMap P3
 | _=>[]
theorem ZM {F:Fr} {st:St} {a:Act} {w:World} {G:Bj} (h:R F st a w G) {av:Nat→Prop} (hav: ∀ b,b<w.heap.size→av b→G.wr b) {c:C} {v:Value} (hid: ∀ id∈P3 c,st.okFrz id=true→ ∀ b,G.blk id=some b→ ¬av b)
 (hp:(IM st c).pure =true) (hr:Ap w G c v):Ap w (im av) (IM st c) v:=by
 cases c with
 | osl id=>
   simp only [IM]at hp ⊢
   split at hp
   ·rename_i e he
    split at hp
    ·rename_i E n len hrow
     split
     rotate_left
     ·simp only [Ap];exact hr.one
     rename_i hpu
     have hpl:AH e.cs=true:=h.pures e (B6 he).1 hpu
     have hok:st.okFrz id=true:=by simp [St.okFrz,he,hrow,hpu]
     have hf:=(h.frz he hrow hpl).own v (by simp only [Ap]at hr;exact hr.1)
     simp only [Ap]at hf ⊢
     obtain⟨hpp,ad,cap,q1,q2,q3,q4,q5⟩:=hf
     refine⟨hpp,ad,cap,q1,q2,q3,q4,?_⟩
     rcases q5 with q5 | ⟨b,o,rfl,k1,k2,k3⟩
     ·exact .inl q5
     ·by_cases hz:len=0
      ·exact .inl hz
      refine .inr ⟨b,o,rfl,?_,k2,?_⟩
      ·have hb:G.blk id=some b:=by
        obtain⟨hm,hid'⟩:=B6 he
        have hE:=h.store e hm
        unfold BQ at hE
        rw [hrow]at hE
        obtain⟨hl,v',h1,h2⟩:=hE
        simp only [Ap]at hr
        rw [hid',hr.1]at h1
        injection h1 with h1;subst h1
        rcases h2 with ⟨_,_,h4,_⟩ | ⟨b',cap',cur,h3,e2,_⟩
        ·exact absurd h4 hz
        ·rw [q1]at h3
         injection h3 with h3;injection h3 with h3;injection h3 with h3
         rw [hid']at e2;rw [h3];exact e2
       exact hid id (by simp [P3]) hok b hb
      ·exact Au.mono (G:=CX F G id none none) (G':=im av) ⟨Nat.le_refl _,fun _ _ _=>rfl,fun b' hb' hw=>by
        have:=hav b' hb' hw
        rw [h.wr]at this
        simp only [CX]
        rcases this with q | ⟨i,q⟩
        ·exact .inl q
        ·by_cases hi:i=id
         ·subst hi;exact absurd hw (hid i (by simp [P3]) hok b' q)
         ·exact .inr ⟨i,by simp [hi,q]⟩,fun _ _ _ _=>DI.same rfl⟩ _ _ _ (fun i hi=>by have:Ck i e.cs=true:=hi;rw [By i e.cs hpl]at this;cases this) (fun _=>rfl) k3
    ·simp [C.pure]at hp ⊢;simp only [Ap];exact hr.one
   ·simp only [Ap];exact hr.one
 | nils=>
   simp only [Ap]at hr
   subst hr
   simp only [IM,Ap]
   exact⟨rfl,none,0,rfl,Nat.le_refl _,Nat.zero_le _,fun _=>trivial, .inl trivial⟩
 | _=>
   first
    | exact Ap.mono (G:=G) (G':=im av) ⟨Nat.le_refl _,fun _ _ _=>rfl,fun b hb hw=>hav b hb hw,fun _ _ _ _=>DI.same rfl⟩ _ _ (fun i hi=>absurd (show (IM st _).men i=true from hi) (by rw [L5 i _ hp];simp)) hr
theorem ZN {F:Fr} {st:St} {a:Act} {w:World} {G:Bj} (h:R F st a w G) {av:Nat→Prop} (hav: ∀ b,b<w.heap.size→av b→G.wr b): ∀ {cs:List C} {vs:List Value},(∀ id∈cs.flatMap P3,st.okFrz id=true→ ∀ b,G.blk id=some b→ ¬av b)→
 AH (cs.map (IM st))=true→At w G cs vs→At w (im av) (cs.map (IM st)) vs
 | [],[],_,_,_=>by simp [At]
 | [],_::_,_,_,h=>by simp [At]at h
 | _::_,[],_,_,h=>by simp [At]at h
 | c::cs,v::vs,hid,hp,hr=>by
   simp only [At]at hr
   simp only [List.map_cons,AH,Bool.and_eq_true]at hp
   simp only [List.map_cons,At]
   exact⟨ZM h hav (fun id hi=>hid id (by simp [hi])) hp.1 hr.1,ZN h hav (fun id hi=>hid id (by simp only [List.flatMap_cons,List.mem_append];exact .inr hi)) hp.2 hr.2⟩
theorem ZO {F:Fr} {st:St} {a:Act} {w:World} {G:Bj} (h:R F st a w G) {av:Nat→Prop} (hav: ∀ b,b<w.heap.size→av b→G.wr b) {x:V} {v:Value} (hid: ∀ id∈jH x,st.okFrz id=true→ ∀ b,G.blk id=some b→ ¬av b)
 (hp:(BM st x).pure =true) (hr:Ak w G x v):Ak w (im av) (BM st x) v:=by
 cases x with
 | c x=>simp only [BM,Ak]at hr ⊢;exact ZM h hav hid (by simpa only [BM,V.pure] using hp) hr
 | agg cs=>
   simp only [BM,Ak]at hr ⊢
   obtain⟨arr,e,hr⟩:=hr
   exact⟨arr,e,ZN h hav hid (by simpa only [BM,V.pure] using hp) hr⟩
 | tup vs=>exact mR hav hp hr
 | g b v'=>exact mR hav hp hr
 | undef=>simp only [BM,Ak]
def CH (xs:List V):List AC:=xs.flatMap jH
theorem HE {F:Fr} {st:St} {a:Act} {w:World} {G:Bj} (h:R F st a w G) {av:Nat→Prop} (hav: ∀ b,b<w.heap.size→av b→G.wr b): ∀ {xs:List V} {vs:List Value},(∀ id∈CH xs,st.okFrz id=true→ ∀ b,G.blk id=some b→ ¬av b)→
 Ce (xs.map (BM st))=true→AJ w G xs vs→AJ w (im av) (xs.map (BM st)) vs
 | [],_,_,_,h=>by simpa [AJ] using h
 | x::xs,vs,hid,hp,hr=>by
   simp only [AJ]at hr
   obtain⟨v,r,rfl,h1,h2⟩:=hr
   simp only [List.map_cons,Ce,Bool.and_eq_true]at hp
   simp only [List.map_cons,AJ]
   exact⟨v,r,rfl,ZO h hav (fun id hi=>hid id (by simp only [CH,List.flatMap_cons,List.mem_append];exact .inl hi)) hp.1 h1,
    HE h hav (fun id hi=>hid id (by simp only [CH,List.flatMap_cons,List.mem_append];exact .inr hi)) hp.2 h2⟩
def St.after (st:St) (ids:List AC) (d:Option Nat) (r:V):St:=
 if r.flat then st.put d r else match ids with
  | []=>st.put d r
  | id::_=>(st.freeze id).put d r
theorem Gn {B:Nat} {w w':World} (h:Below B w w'):PX w w':=⟨h.os,h.tape,h.output⟩
theorem FG {w w':World} (h:Below w.heap.size w w'):Fy w w':=⟨h.size,fun b hb=>h.block b hb⟩
theorem R.avlt' {F:Fr} {st:St} {a:Act} {w:World} {G:Bj} (h:R F st a w G) {b:Nat} (hb:G.wr b):b<w.heap.size:=by
 rw [h.wr]at hb
 rcases hb with q | ⟨i,q⟩
 ·exact Nat.lt_of_lt_of_le (h.avlt b q) h.hsize
 ·exact h.lt i b q
theorem R.called {F:Fr} {st:St} {a:Act} {w:World} {G:Bj} (h:R F st a w G) {P:Program} {f:FuncId} {xs:List V} {us:Array Value} {Q:V→Prop} (hc:AQ P F.I f (xs.map (BM st)) Q)
 (hp:Ce (xs.map (BM st))=true) (hx:AJ w G xs us.toList) (d:Option Nat) (hfl: ∀ r,Q r→(r.flat=true∨(CH xs).length ≤1∧ ∀ id∈CH xs,st.okFrz id=true)):
 Calls P f us w (fun e w'=> ∃ v r G',e= .returned v∧Q r∧R F (st.after (CH xs) d r) (a.put d v) w' G'):=by
 have hI:F.I w:=h.inv w h.hsize h.ext
 by_cases hne:CH xs=[]
 ·have h1:=HE h (av:=fun b=>G.wr b) (fun _ _ q=>q) (by rw [hne];simp) hp hx
  refine(hc.run w us (fun b=>G.wr b) hI (fun b hb=>h.avlt' hb) h1).mono fun e w' ⟨v,r,he,hq,hpr,hr,hb⟩=>?_
  refine⟨v,r,G,he,hq,?_⟩
  have h2:=(h.same (Gn hb) (FG hb)).put (d:=d) (Wd (G:=G) (fun _ _ q=>q) hpr hr)
  unfold St.after
  rw [hne]
  split<;>exact h2
 ·
  have hav: ∀ b,b<w.heap.size→(G.wr b∧ ∀ id∈CH xs,G.blk id ≠ some b)→G.wr b:=fun _ _ q=>q.1
  have h1:=HE h (av:=fun b=>G.wr b∧ ∀ id∈CH xs,G.blk id ≠ some b) hav (fun id hi _ b hb hw=>hw.2 id hi hb) hp hx
  refine(hc.run w us _ hI (fun b hb=>h.avlt' hb.1) h1).mono fun e w' ⟨v,r,he,hq,hpr,hr,hb⟩=>?_
  by_cases hf:r.flat=true
  ·refine⟨v,r,G,he,hq,?_⟩
   have h2:=(h.same (Gn hb) (FG hb)).put (d:=d) ((EM (w:=w') (G:=G) hf).2 ((EM hf).1 hr))
   unfold St.after;rw [if_pos hf];exact h2
  ·rcases hfl r hq with q | ⟨q1,q2⟩
   ·exact absurd q hf
   ·obtain⟨id,hid⟩: ∃ id,CH xs=[id]:=by
     match hh:CH xs,q1,hne with
     | [],_,hne=>exact absurd rfl hne
     | [id],_,_=>exact⟨id,rfl⟩
    obtain⟨G',g1,g2,g3⟩:=h.freeze id
    refine⟨v,r,G',he,hq,?_⟩
    have g4:=g1.same (Gn hb) (FG hb)
    have hr':Ak w' G' r v:=Wd (fun b hb' hw=>⟨g2 b hw,fun i hi hbi=>by
     rw [hid]at hi;simp at hi;subst hi
     exact g3 (q2 i (by rw [hid];simp)) b hbi hw⟩) hpr hr
    unfold St.after
    rw [if_neg hf,hid]
    exact g4.put hr'
end Go.PL
namespace Go.PL
open Go Go.RowKit
def xo:C→C→Bool
 | .int _ a, .int _ b=>a==b
 | .bool a, .bool b=>a==b
 | .str a, .str b=>a==b
 | _,_=>false
def BL:List C→List C→Bool
 | [],[]=>true
 | c::cs,d::ds=>xo c d&&BL cs ds
 | _,_=>false
theorem Md: ∀ {a b c d:List C},a.length=b.length→BL (a++c) (b++d)=(BL a b&&BL c d)
 | [],[],c,d,_=>by simp [BL]
 | x::a,y::b,c,d,h=>by simp only [List.cons_append,BL,Md (a:=a) (b:=b) (by simpa using h),Bool.and_assoc]
 | [],_::_,_,_,h=>by simp at h
 | _::_,[],_,_,h=>by simp at h
def oc (P:Program) (R:TypeId→List C→Bool) (cs:List C):Nat→List Field→Bool
 | o,[]=>o==cs.length
 | o,f::fs=>f.name != "_" &&f.offset==o&&(match Or P f.type with
   | some (ag,n)=>(ag||n==1)&&Nat.ble (o+n) cs.length&&R f.type ((cs.drop o).take n)&&oc P R cs (o+n) fs
   | none=>false)
def U6 (P:Program):Nat→TypeId→List C→Bool
 | 0,_,_=>false
 | n+1,t,cs=>match P.underlying t with
   | some .bool =>match cs with
     | [.bool _]=>true
     | _=>false
   | some (.int k)=>match cs with
     | [.int k' _]=>k==k'
     | _=>false
   | some .string =>match cs with
     | [.str _]=>true
     | _=>false
   | some (.struct fs)=> !P.stoodInHeld t&&oc P (U6 P n) cs 0 fs.toList
   | some (.array m e)=>match Or P e with
     | some (ag,k)=>(ag||k==1)&&cs.length==m*k&&(List.range m).all fun i=>U6 P n e ((cs.drop (i*k)).take k)
     | none=>false
   | _=>false
def jI (P:Program) (t:TypeId):Bool:=match P.underlying t with
 | some d=>d.isRow
 | none=>false
def s5 (ag:Bool) (cs:List C):V:=if ag then .agg cs else .c (cs.getD 0 .any)
theorem VF {ag:Bool} {o n:Nat} {cs:List C} (h0:ag=true∨n=1) (hn:o+n≤cs.length):toV ag o n cs=s5 ag ((cs.drop o).take n):=by
 unfold toV s5
 cases ag with
 | true=>rfl
 | false=>
   rcases h0 with h | h
   ·cases h
   subst h
   simp only [Bool.false_eq_true,if_false]
   simp [List.getD_eq_getElem?_getD,List.getElem?_take,List.getElem?_drop]
section
variable {P:Program} {w:World} {G:Bj}
def vp (P:Program) (w:World) (G:Bj) (d n:Nat) (t:TypeId):Prop:=
 ∀ (cs ds:List C) (x y:Value),U6 P n t cs=true→U6 P n t ds=true→Ak w G (s5 (jI P t) cs) x→Ak w G (s5 (jI P t) ds) y→ ∀ w',(Op.equalIn d t x y).run P w'= .ok (BL cs ds) w'
theorem VG {t:TypeId} {ag:Bool} {n:Nat} (h:Or P t=some (ag,n)):jI P t=ag:=by
 obtain⟨d,i,hu,hd,_⟩:=Ep h
 unfold jI;rw [hu];exact hd
theorem T1 {d n:Nat} (ih: ∀ t,vp P w G d n t) {cs ds:List C} {xs ys:Array Value} (hx:At w G cs xs.toList) (hy:At w G ds ys.toList): ∀ (fs:List Field) (o:Nat),oc P (U6 P n) cs o fs=true→oc P (U6 P n) ds o fs=true→
 ∀ w',(Op.eqFields d xs ys fs).run P w'= .ok (BL (cs.drop o) (ds.drop o)) w'
 | [],o,h1,h2,w'=>by
   simp only [oc,beq_iff_eq]at h1 h2
   have e1:cs.drop o=[]:=by rw [h1];simp
   have e2:ds.drop o=[]:=by rw [h2];simp
   rw [e1,e2]
   simp [Op.eqFields,BL]
 | f::fs,o,h1,h2,w'=>by
   simp only [oc,Bool.and_eq_true,bne_iff_ne,ne_eq,beq_iff_eq]at h1 h2
   obtain⟨⟨hn,ho⟩,h1⟩:=h1
   obtain⟨_,h2⟩:=h2
   cases ht:Or P f.type with
   | none=>rw [ht]at h1;cases h1
   | some p=>
     obtain⟨ag,k⟩:=p
     rw [ht]at h1 h2
     simp only [Bool.and_eq_true,Bool.or_eq_true,beq_iff_eq,Nat.ble_eq]at h1 h2
     obtain⟨⟨⟨h0,l1⟩,r1⟩,q1⟩:=h1
     obtain⟨⟨⟨_,l2⟩,r2⟩,q2⟩:=h2
     obtain⟨a,ra,pa⟩:=run_part' ht hx l1 (h0.imp id (fun h=>by omega))
     obtain⟨b,rb,pb⟩:=run_part' ht hy l2 (h0.imp id (fun h=>by omega))
     rw [VF h0 l1, ←VG ht]at ra
     rw [VF h0 l2, ←VG ht]at rb
     have he:=ih f.type _ _ a b r1 r2 ra rb w'
     have hrest:=T1 ih hx hy fs (o+k) q1 q2 w'
     have split1:cs.drop o=(cs.drop o).take k++cs.drop (o+k):=by rw [←List.drop_drop,List.take_append_drop]
     have split2:ds.drop o=(ds.drop o).take k++ds.drop (o+k):=by rw [←List.drop_drop,List.take_append_drop]
     rw [split1,split2,Md (by simp;omega)]
     simp only [Op.eqFields,hn,ne_eq,not_false_eq_true,if_true,Sem.run_bind,ho,pa,pb,he,Result.andThen_ok]
     cases BL ((cs.drop o).take k) ((ds.drop o).take k)
     ·simp
     ·simpa using hrest
theorem Wi {d n:Nat} {e:TypeId} (ih:vp P w G d n e) {cs ds:List C} {xs ys:Array Value} {ag:Bool} {k:Nat} (ht:Or P e=some (ag,k)) (h0:ag=true∨k=1) (hx:At w G cs xs.toList) (hy:At w G ds ys.toList): ∀ (m o:Nat),cs.length=(o+m)*k→ds.length=(o+m)*k→
 (∀ i,i<o+m→U6 P n e ((cs.drop (i*k)).take k)=true)→(∀ i,i<o+m→U6 P n e ((ds.drop (i*k)).take k)=true)→
 ∀ w',(Op.eqItems d e k xs ys ((List.range m).map (o+ ·))).run P w'= .ok (BL (cs.drop (o*k)) (ds.drop (o*k))) w'
 | 0,o,l1,l2,_,_,w'=>by
   have e1:cs.drop (o*k)=[]:=by simp at l1;simp [l1]
   have e2:ds.drop (o*k)=[]:=by simp at l2;simp [l2]
   rw [e1,e2]
   simp [Op.eqItems,BL]
 | m+1,o,l1,l2,a1,a2,w'=>by
   have hk:(o+(m+1))*k=o*k+k+m*k:=by rw [Nat.add_mul,Nat.add_mul];omega
   have b1:o*k+k≤cs.length:=by rw [l1,hk];omega
   have b2:o*k+k≤ds.length:=by rw [l2,hk];omega
   obtain⟨a,ra,pa⟩:=run_part' ht hx b1 (h0.imp id (fun h=>by omega))
   obtain⟨b,rb,pb⟩:=run_part' ht hy b2 (h0.imp id (fun h=>by omega))
   rw [VF h0 b1, ←VG ht]at ra
   rw [VF h0 b2, ←VG ht]at rb
   have he:=ih _ _ a b (a1 o (by omega)) (a2 o (by omega)) ra rb w'
   have hrest:=Wi ih ht h0 hx hy m (o+1) (by rw [l1];congr 1;omega) (by rw [l2];congr 1;omega) (fun i hi=>a1 i (by omega)) (fun i hi=>a2 i (by omega)) w'
   have hl:(List.range (m+1)).map (o+ ·)=o::(List.range m).map (o+1+ ·):=by
    rw [List.range_succ_eq_map,List.map_cons,List.map_map]
    simp only [Nat.add_zero,List.cons.injEq,true_and]
    apply List.map_congr_left
    intro i _
    simp only [Function.comp];omega
   have e1:(o+1)*k=o*k+k:=by rw [Nat.add_mul];omega
   rw [e1]at hrest
   have split1:cs.drop (o*k)=(cs.drop (o*k)).take k++cs.drop (o*k+k):=by rw [←List.drop_drop,List.take_append_drop]
   have split2:ds.drop (o*k)=(ds.drop (o*k)).take k++ds.drop (o*k+k):=by rw [←List.drop_drop,List.take_append_drop]
   rw [split1,split2,Md (by simp;omega),hl]
   simp only [Op.eqItems,Sem.run_bind,pa,pb,he,Result.andThen_ok]
   cases BL ((cs.drop (o*k)).take k) ((ds.drop (o*k)).take k)
   ·simp
   ·simpa using hrest
theorem cd: ∀ (n d:Nat) (t:TypeId),vp P w G (d+n) n t
 | 0,_,_,_,_,_,_,h,_,_,_,_=>by simp [U6]at h
 | n+1,d,t,cs,ds,x,y,h1,h2,hx,hy,w'=>by
   unfold U6 at h1 h2
   cases hu:P.underlying t with
   | none=>rw [hu]at h1;cases h1
   | some kd=>
     rw [hu]at h1 h2
     have hr:jI P t=kd.isRow:=by unfold jI;rw [hu]
     rw [hr]at hx hy
     cases kd<;>simp only at h1 h2<;>try (cases h1;done)
     case bool=>
      split at h1<;>try (cases h1;done)
      split at h2<;>try (cases h2;done)
      simp only [s5,Ak,Ap,List.getD_cons_zero,TypeDesc.isRow,Bool.false_eq_true,if_false]at hx hy
      subst hx hy
      rw [show d+(n+1)=(d+n)+1 from rfl,run_equalIn_bool' w' (d+n) t _ _ hu]
      simp [BL,xo]
     case int k=>
      split at h1<;>try (cases h1;done)
      split at h2<;>try (cases h2;done)
      simp only [beq_iff_eq]at h1 h2
      subst h1
      simp only [s5,Ak,Ap,List.getD_cons_zero,TypeDesc.isRow,Bool.false_eq_true,if_false]at hx hy
      subst hx hy h2
      rw [show d+(n+1)=(d+n)+1 from rfl,run_equalIn_int w' (d+n) t _ _ _ _ hu]
      simp [BL,xo]
     case string=>
      split at h1<;>try (cases h1;done)
      split at h2<;>try (cases h2;done)
      simp only [s5,Ak,Ap,List.getD_cons_zero,TypeDesc.isRow,Bool.false_eq_true,if_false]at hx hy
      subst hx hy
      rw [show d+(n+1)=(d+n)+1 from rfl,run_equalIn_string w' (d+n) t _ _ hu]
      simp [BL,xo,ByteArray.toList_eq]
     case struct fs=>
      simp only [Bool.and_eq_true,Bool.not_eq_true']at h1 h2
      simp only [s5,TypeDesc.isRow,if_true,Ak]at hx hy
      obtain⟨xs,rfl,hx⟩:=hx
      obtain⟨ys,rfl,hy⟩:=hy
      have hfs:P.fieldsOf t=fs:=by simp [Program.fieldsOf,hu]
      rw [show d+(n+1)=(d+n)+1 from rfl,run_equalIn_struct w' (d+n) t xs ys (by rw [hfs];exact hu) h1.1,hfs]
      have:=T1 (fun t=>cd n d t) hx hy fs.toList 0 h1.2 h2.2 w'
      simpa using this
     case array m e=>
      cases ht:Or P e with
      | none=>rw [ht]at h1;cases h1
      | some p=>
        obtain⟨ag,k⟩:=p
        rw [ht]at h1 h2
        simp only [Bool.and_eq_true,Bool.or_eq_true,beq_iff_eq,List.all_eq_true,List.mem_range]at h1 h2
        simp only [s5,TypeDesc.isRow,if_true,Ak]at hx hy
        obtain⟨xs,rfl,hx⟩:=hx
        obtain⟨ys,rfl,hy⟩:=hy
        obtain⟨dd,i,_,_,hi,hsz⟩:=Ep ht
        have hc:P.cellsOf e=k:=by simp [Program.cellsOf,hi,hsz]
        rw [show d+(n+1)=(d+n)+1 from rfl,run_equalIn_array w' (d+n) xs ys hu hi]
        have:=Wi (cd n d e) ht h1.1.1 hx hy m 0 (by simpa using h1.1.2) (by simpa using h2.1.2) (by simpa using h1.2) (by simpa using h2.2) w'
        simpa [hc] using this
def jJ (P:Program) (t:TypeId) (cs ds:List C):Bool:= !P.eqGuardType P.depth t&&jI P t&&U6 P 40 t cs&&U6 P 40 t ds
def fg (P:Program) (op:BinOp) (t:TypeId) (cs ds:List C):Prop×V:=
 match op with
 | .eql =>(jJ P t cs ds=true, .c (.bool (BL cs ds)))
 | .neq =>(jJ P t cs ds=true, .c (.bool !(BL cs ds)))
 | _=>no
theorem jK {op:BinOp} {t:TypeId} {cs ds:List C} {u v:Value} {ox oy:Operand} (hx:Ak w G (.agg cs) u) (hy:Ak w G (.agg ds) v) (hs:(fg P op t cs ds).1):
 ∃ r,Ak w G (fg P op t cs ds).2 r∧ ∀ w',(do eqGuard op t ox oy u v;binOp op t u v).run P w'= .ok r w':=by
 have key:jJ P t cs ds=true→ ∃ xs ys,u= .agg xs∧v= .agg ys∧(∀ w',(eqGuard op t ox oy u v).run P w'= .ok () w')∧ ∀ w',(Op.equalIn 10000 t u v).run P w'= .ok (BL cs ds) w':=by
  intro h
  simp only [jJ,Bool.and_eq_true,Bool.not_eq_true']at h
  have hx':=hx
  have hy':=hy
  simp only [Ak]at hx' hy'
  obtain⟨xs,rfl,_⟩:=hx'
  obtain⟨ys,rfl,_⟩:=hy'
  refine⟨xs,ys,rfl,rfl,fun w'=>run_eqGuard_agg w' op t ox oy xs ys h.1.1.1,fun w'=>?_⟩
  exact cd (P:=P) (w:=w) (G:=G) 40 9960 t cs ds _ _ h.1.2 h.2 (by rw [h.1.1.2];exact hx) (by rw [h.1.1.2];exact hy) w'
 unfold fg at *
 split at hs
 ·obtain⟨xs,ys,rfl,rfl,h1,h2⟩:=key hs
  exact⟨_,(Bm rfl).2 rfl,fun w'=>by simp only [Sem.run_bind,h1,Result.andThen_ok,run_eql_struct,h2];rfl⟩
 ·obtain⟨xs,ys,rfl,rfl,h1,h2⟩:=key hs
  exact⟨_,(Bm rfl).2 rfl,fun w'=>by simp only [Sem.run_bind,h1,Result.andThen_ok,run_neq_struct,h2];rfl⟩
 ·exact hs.elim
end
def od:List C→Bool
 | []=>true
 | .int _ _::cs=>od cs
 | .bool _::cs=>od cs
 | .str _::cs=>od cs
 | _::_=>false
theorem ZP: ∀ {cs:List C},od cs=true→BL cs cs=true
 | [],_=>rfl
 | c::cs,h=>by
   cases c<;>simp only [od]at h<;>first | (cases h;done) | (simp only [BL,xo,beq_self_eq_true,Bool.true_and];exact ZP h)
def kinds:List C→List (Option IntKind)
 | []=>[]
 | .int k _::cs=>some k::kinds cs
 | _::cs=>none::kinds cs
theorem VH: ∀ {cs ds:List C},kinds cs=kinds ds→BL cs ds=true→cs=ds
 | [],[],_,_=>rfl
 | [],_::_,_,h=>by simp [BL]at h
 | _::_,[],_,h=>by simp [BL]at h
 | c::cs,d::ds,hk,h=>by
   simp only [BL,Bool.and_eq_true]at h
   cases c<;>cases d<;>simp only [xo,Bool.false_eq_true,false_and]at h
   ·simp only [kinds,List.cons.injEq,Option.some.injEq]at hk
    rw [beq_iff_eq.1 h.1,hk.1,VH hk.2 h.2]
   ·simp only [kinds,List.cons.injEq,true_and]at hk
    rw [beq_iff_eq.1 h.1,VH hk h.2]
   ·simp only [kinds,List.cons.injEq,true_and]at hk
    rw [beq_iff_eq.1 h.1,VH hk h.2]
theorem Dj {α:Type} [DecidableEq α] (enc:α→List C) (qM:List C→α) (hd: ∀ a,qM (enc a)=a) (hs: ∀ a,od (enc a)=true) (hk: ∀ a b,kinds (enc a)=kinds (enc b)) (a b:α):BL (enc a) (enc b)=(a==b):=by
 by_cases h:a=b
 ·subst h;simp [ZP (hs a)]
 ·have:BL (enc a) (enc b)=false:=by
   cases hc:BL (enc a) (enc b)with
   | false=>rfl
   | true=>exact absurd (by rw [←hd a,VH (hk a b) hc,hd b]) h
  simp [this,h]
def AI:C→Int
 | .int _ n=>n
 | _=>0
def ce:C→Bool
 | .bool b=>b
 | _=>false
def fh:C→List UInt8
 | .str s=>s
 | _=>[]
structure Cb (st st':St):Prop where
 len:st'.tm.length=st.tm.length
 tm: ∀ i,st'.tm.getD i .undef = .undef ∨st'.tm.getD i .undef =st.tm.getD i .undef
 so: ∀ e∈st'.so,e∈st.so
 nd:(st.so.map (·.id)).Nodup →(st'.so.map (·.id)).Nodup
 gh:st'.gh.length=st.gh.length∧ ∀ i,st'.gh.getD i .undef = .undef ∨st'.gh.getD i .undef =st.gh.getD i .undef
 pre:st'.pre=st.pre
theorem Cb.refl (st:St):Cb st st:=⟨rfl,fun _=> .inr rfl,fun _ h=>h,id,⟨rfl,fun _=> .inr rfl⟩,rfl⟩
theorem Wj {w:World} {G:Bj}: ∀ {xs ys:List V} {vs:List Value},ys.length=xs.length→(∀ i,ys.getD i .undef = .undef ∨ys.getD i .undef =xs.getD i .undef)→AJ w G xs vs→AJ w G ys vs
 | [],[],_,_,_,h=>h
 | x::xs,y::ys,vs,hl,hi,h=>by
   simp only [AJ]at h ⊢
   obtain⟨v,r,e,h1,h2⟩:=h
   refine⟨v,r,e,?_,Wj (by simpa using hl) (fun i=>by simpa using hi (i+1)) h2⟩
   rcases hi 0 with q | q
   ·simp at q;rw [q];simp only [Ak]
   ·simp at q;rw [q];exact h1
 | [],_::_,_,hl,_,_=>by simp at hl
 | _::_,[],_,hl,_,_=>by simp at hl
theorem R.less {F:Fr} {st:St} {a:Act} {w:World} {G:Bj} {st':St} (h:R F st a w G) (hl:Cb st st'):R F st' a w G:={
 dfr:=h.dfr
 size:=by rw [hl.len];exact h.size
 slots:=fun i=>by
  rcases hl.tm i with q | q
  ·rw [q];simp only [Ak]
  ·rw [q];exact h.slots i
 ghosts:=Wj hl.gh.1 hl.gh.2 h.ghosts
 store:=fun e he=>h.store e (hl.so e he)
 deep:=fun e he=>h.deep e (hl.so e he)
 pures:=fun e he=>h.pures e (hl.so e he)
 nodup:=hl.nd h.nodup
 inj:=h.inj,lt:=h.lt,new:=h.new,wr:=h.wr,avlt:=h.avlt,inv:=h.inv,avold:=h.avold,os:=h.os,tape:=h.tape,output:=h.output,hsize:=h.hsize,ext:=h.ext}
end Go.PL
namespace Go.PL
open Go Go.RowKit
def cf:List V→Option (List C)
 | []=>some []
 | .c x::vs=>match cf vs with
   | some cs=>some (x::cs)
   | none=>none
 | _=>none
def En (P:Program) (st:St) (g:Bool) (op:Op):Prop×V:=
 match op with
 | .build t ps=>Mb P st g t ps.toList
 | .binOp op t x y t'=>match (st.arg g x).2,(st.arg g y).2 with
   | .agg cs, .agg ds=>((st.arg g x).1∧(st.arg g y).1∧(fg P op t cs ds).1,(fg P op t cs ds).2)
   | _,_=>rd P st g (.binOp op t x y t')
 | .makeFunc (.func f) ⟨[]⟩ caps=>match cf (st.args g caps.toList).2 with
   | some cs=>((st.args g caps.toList).1, .c (.clo f cs))
   | none=>no
 | .makeFunc (.func f) ⟨x::xs⟩ ⟨[]⟩=>match cf (st.args g (x::xs)).2 with
   | some cs=>((st.args g (x::xs)).1, .c (.bmv f cs))
   | none=>no
 | op=>rd P st g op
theorem Wl {w:World} {G:Bj}: ∀ {vs:List V} {cs:List C} {us:List Value},cf vs=some cs→AJ w G vs us→At w G cs us
 | [],cs,us,h,hr=>by simp [cf]at h;subst h;simp only [AJ]at hr;subst hr;simp [At]
 | v::vs,cs,us,h,hr=>by
   unfold cf at h
   split at h
   ·cases ‹_=([]:List V)›
   ·rename_i x vs' he
    injection he with h1 h2;subst h1 h2
    split at h
    ·rename_i cs' hcs
     injection h with h;subst h
     simp only [AJ,Ak]at hr
     obtain⟨u,r,rfl,h1,h2⟩:=hr
     simp only [At]
     exact⟨h1,Wl hcs h2⟩
    ·cases h
   ·cases h
theorem Hk {P:Program} {F:Fr} {st:St} {a:Act} {w:World} {G:Bj} (h:R F st a w G) {g:Bool} (hg:g=true) {o:Oper} (hs:(En P st g o.op).1):
 ∃ v,Ak w G (En P st g o.op).2 v∧ ∀ w',Fy w w'→(execOp a.eval o).run P w'= .ok (.value v) w':=by
 unfold En at *
 split at hs
 ·rename_i t ps ho
  obtain⟨v,q1,q2⟩:=bZ h hg hs
  exact⟨v,q1,fun w' _=>by simp [execOp,ho,q2 w']⟩
 ·rename_i op t x y t' ho
  split at hs
  ·rename_i cs ds e1 e2
   have hx:=h.arg hg hs.1
   have hy:=h.arg hg hs.2.1
   rw [e1]at hx
   rw [e2]at hy
   obtain⟨v,q1,q2⟩:=jK (P:=P) (op:=op) (t:=t) (ox:=x) (oy:=y) hx hy hs.2.2
   refine⟨v,q1,fun w' hw'=>?_⟩
   have:=q2 w'
   simp only [execOp,ho,Sem.run_bind]at this ⊢
   rw [this];rfl
  ·rw [←ho]at hs ⊢
   exact eT h hg hs
 ·rename_i f caps ho
  split at hs
  ·rename_i cs hcs
   have:=Wl hcs (h.args hg hs)
   refine⟨.func (.func f) #[] (caps.map a.eval),⟨_,rfl,by simpa using this⟩,fun w' _=>by simp [execOp,ho,Instr.makeFunc]⟩
  ·exact hs.elim
 ·rename_i f x xs ho
  split at hs
  ·rename_i cs hcs
   have:=Wl hcs (h.args hg hs)
   refine⟨.func (.func f) ((x::xs).map a.eval).toArray #[],⟨_,rfl,by simpa using this⟩,fun w' _=>by simp [execOp,ho,Instr.makeFunc]⟩
  ·exact hs.elim
 ·exact eT h hg hs
inductive Kind where
 | rd | ef | call (f:FuncId) (xs:List Operand) | cut (x:Operand) | no
def Cf:Op→Kind
 | .alloc _ | .box _ _ | .buildSlice .. | .makeSlice .. | .store .. => .ef
 | .assign (.const (.slice none 0 0))=> .ef
 | .slice _ x _ _ _=> .cut x
 | .call c=>match c.callee with
   | .builtin .append => .ef
   | .builtin .copy => .ef
   | .builtin _=> .rd
   | .value (.func f)=> .call f c.args.toList
   | _=> .no
 | _=> .rd
def St.cutAt (st:St) (g:Bool) (x:Operand):St:=
 match (st.arg g x).2 with
 | .c (.osl id)=>st.freeze id
 | _=>st
abbrev oe (F:Fr) (K:St→Prop) (a:Act) (w:World):Prop:= ∃ st' G',K st'∧R F st' a w G'
def YE (P:Program) (I:World→Prop) (o:Oper) (st:St) (K:St→Prop):Prop:=
 ∀ (F:Fr) (a:Act) (w:World) (G:Bj) (Q:Exit→Act→World→Prop),F.I=I→R F st a w G→o.wp P a w (oe F K) Q
def og (P:Program) (I:World→Prop) (o:Oper) (st:St) (K:St→Prop):Prop:=
 YE P I o st K∨match Cf o.op with
 | .rd =>(En P st true o.op).1∧K (st.put o.dst (En P st true o.op).2)
 | .ef =>(ef P st o).1∧K (ef P st o).2
 | .call f xs=>(st.args true xs).1∧Ce ((st.args true xs).2.map (BM st))=true∧
  ∃ Q,AQ P I f ((st.args true xs).2.map (BM st)) Q∧ ∀ r,Q r→(r.flat=true∨(CH (st.args true xs).2).length ≤1∧ ∀ id∈CH (st.args true xs).2,st.okFrz id=true)∧K (st.after (CH (st.args true xs).2) o.dst r)
 | .cut x=>(En P (st.cutAt true x) true o.op).1∧K ((st.cutAt true x).put o.dst (En P (st.cutAt true x) true o.op).2)
 | .no =>False
def G4 (st:St) (ops:Array Oper) (j:Nat) (want:Bool):Option Bool:=
 match ops[j]? with
 | some p=>match p.dst with
   | some t=>match st.get t with
     | .c (.bool b)=>some (b==want)
     | .g c (.c (.bool b))=>some (c&&(b==want))
     | _=>none
   | none=>none
 | none=>none
def vt (P:Program) (I:World→Prop) (o:Oper) (st:St) (g:Bool) (K:St→Prop):Prop:=
 ((g=true→og P I o st K)∧(g=false→ ∃ x st',Cb (st.put o.dst (.g g x)) st'∧K st'))∨match Cf o.op with
 | .rd => ∃ v,(g=true→(En P st g o.op).1∧(En P st g o.op).2=v)∧K (st.put o.dst (.g g v))
 | .call f xs=>(g=true→(st.args g xs).1∧Ce ((st.args g xs).2.map (BM st))=true)∧
  ∃ r,(r.flat=true∨CH (st.args g xs).2=[])∧(g=true→AQ P I f ((st.args g xs).2.map (BM st)) (· =r))∧K (st.put o.dst (.g g r))
 | _=>False
def mS (P:Program) (I:World→Prop) (ops:Array Oper) (o:Oper) (st:St) (K:St→Prop):Prop:=
 match o.guard with
 | none=>og P I o st K
 | some (j,want)=>match G4 st ops j want with
   | some g=>vt P I o st g K
   | none=>False
def CI (P:Program) (I:World→Prop) (ops:Array Oper):List Oper→St→(St→Prop)→Prop
 | [],st,K=>K st
 | o::rest,st,K=>mS P I ops o st (fun st'=>CI P I ops rest st' K)
def vu (P:Program) (I:World→Prop) (o:Oper) (st:St) (K:St→Prop):Prop:=
 match Cf o.op with
 | .rd =>(En P st true o.op).1∧K (st.put o.dst (En P st true o.op).2)
 | .cut _=>(En P st true o.op).1∧K (st.put o.dst (En P st true o.op).2)
 | .call f xs=>(st.args true xs).1∧Ce ((st.args true xs).2.map (BM st))=true∧
  ∃ r,r.flat=true∧AQ P I f ((st.args true xs).2.map (BM st)) (· =r)∧K (st.put o.dst r)
 | _=>False
def vv (P:Program) (I:World→Prop) (o:Oper) (st:St) (g:Bool) (K:St→Prop):Prop:=
 match Cf o.op with
 | .rd => ∃ v,(g=true→(En P st g o.op).1∧(En P st g o.op).2=v)∧K (st.put o.dst (.g g v))
 | .cut _=> ∃ v,(g=true→(En P st g o.op).1∧(En P st g o.op).2=v)∧K (st.put o.dst (.g g v))
 | .call f xs=>(g=true→(st.args g xs).1∧Ce ((st.args g xs).2.map (BM st))=true)∧
  ∃ r,r.flat=true∧(g=true→AQ P I f ((st.args g xs).2.map (BM st)) (· =r))∧K (st.put o.dst (.g g r))
 | _=>False
def vw (P:Program) (I:World→Prop) (ops:Array Oper) (o:Oper) (st:St) (K:St→Prop):Prop:=
 match o.guard with
 | none=>vu P I o st K
 | some (j,want)=>match G4 st ops j want with
   | some g=>vv P I o st g K
   | none=>False
def ZQ (P:Program) (I:World→Prop) (ops:Array Oper):List Oper→St→(St→Prop)→Prop
 | [],st,K=>K st
 | o::rest,st,K=>vw P I ops o st (fun st'=>ZQ P I ops rest st' K)
section
variable {P:Program} {F:Fr} {st:St} {a:Act} {w:World} {G:Bj} {ops:Array Oper}
theorem Me {o:Oper} (h:o.guard=none) (y:Nat→Option Bool):Region.wanted o y=true:=by simp [Region.wanted,h]
theorem HF (h:R F st a w G) {o:Oper} {j:Nat} {want g:Bool} (hg:o.guard=some (j,want)) (hq:G4 st ops j want=some g):Region.wanted o (yielded ops a.tmps)=g:=by
 unfold G4 at hq
 split at hq
 ·rename_i p hp
  split at hq
  ·rename_i t ht
   have hs:=h.slots t
   have hv: ∀ v:Value,v ≠ Go.undef→a.tmps.getD t Go.undef=v→a.tmps[t]? =some v:=by
    intro v hne he
    rw [Array.getD_eq_getD_getElem?]at he
    cases hx:a.tmps[t]? with
    | none=>rw [hx]at he;exact absurd he.symm hne
    | some x=>rw [hx]at he;exact congrArg some he
   split at hq
   ·rename_i b hb
    injection hq with hq;subst hq
    have:st.tm.getD t .undef = .c (.bool b):=hb
    rw [this]at hs
    simp only [Ak,Ap]at hs
    have:=hv _ (by simp [Go.undef]) hs
    simp [Region.wanted,hg,yielded,hp,ht,this]
   ·rename_i c b hb
    injection hq with hq;subst hq
    have:st.tm.getD t .undef = .g c (.c (.bool b)):=hb
    rw [this]at hs
    simp only [Ak,Ap]at hs
    cases c with
    | true=>
      rw [if_pos rfl]at hs
      have:=hv _ (by simp [Go.undef]) hs
      simp [Region.wanted,hg,yielded,hp,ht,this]
    | false=>
      simp only [Bool.false_eq_true,if_false]at hs
      have hn: ∀ x,a.tmps[t]? =some (.bool x)→False:=by
       intro x hx
       rw [Array.getD_eq_getD_getElem?,hx]at hs
       simp [Go.undef]at hs
      have:yielded ops a.tmps j=none:=by
       unfold yielded
       simp only [hp,Option.bind_some,ht]
       first
        | done
        | (split
           ·rename_i b' hb';exact(hn b' hb').elim
           ·rfl)
      simp [Region.wanted,hg,this]
   ·cases hq
  ·cases hq
 ·cases hq
theorem R.cutAt (h:R F st a w G) (g:Bool) (x:Operand): ∃ G',R F (st.cutAt g x) a w G':=by
 unfold St.cutAt
 split
 ·obtain⟨G',q,_⟩:=h.freeze _;exact⟨G',q⟩
 ·exact⟨G,h⟩
theorem CJ {o:Oper} {v:Value} {w':World} {K:Act→World→Prop} {Q:Exit→Act→World→Prop} (hr:(execOp a.eval o).run P w= .ok (.value v) w') (h:K (a.put o.dst v) w'):o.wp P a w K Q:=by
 unfold Oper.wp Oper.upon;rw [hr];exact h
theorem NI (h:R F st a w G) {o:Oper} {K:St→Prop} {Q:Exit→Act→World→Prop} (hs:og P F.I o st K):o.wp P a w (oe F K) Q:=by
 unfold og at hs
 rcases hs with hs | hs
 ·exact hs F a w G Q rfl h
 split at hs
 ·obtain⟨v,q1,q2⟩:=Hk h rfl hs.1
  exact CJ (q2 w (Fy.refl w)) ⟨_,G,hs.2,h.put q1⟩
 ·obtain⟨nx,w',G',q1,q2⟩:=(fd h hs.1).out
  unfold Oper.wp Oper.upon
  rw [q1]
  rcases q2 with ⟨v,rfl,q3⟩ | ⟨rfl,q3⟩
  ·exact⟨_,G',hs.2,q3⟩
  ·exact⟨_,G',hs.2,q3⟩
 ·rename_i f xs hk
  obtain⟨h1,h2,Q',hc,hq⟩:=hs
  have hr:(execOp a.eval o).run P w= .ok (.enter f (xs.map a.eval).toArray) w:=by
   unfold Cf at hk
   split at hk<;>try (cases hk;done)
   rename_i c ho
   split at hk<;>try (cases hk;done)
   rename_i f' hcal
   injection hk with hk1 hk2
   subst hk1 hk2
   simp [execOp,ho,resolve,hcal,Act.eval,Deferred.ofValue,invoke,run_callFunc' hc.ent]
   apply Array.ext';simp
  unfold Oper.wp Oper.upon
  rw [hr]
  refine(h.called (us:=(xs.map a.eval).toArray) hc h2 (by simpa using h.args rfl h1) o.dst (fun r q=>(hq r q).1)).mono fun e w' ⟨v,r,G',he,q,hR⟩=>?_
  subst he
  exact⟨_,G',(hq r q).2,hR⟩
 ·rename_i x hk
  obtain⟨G',hR⟩:=h.cutAt true x
  obtain⟨v,q1,q2⟩:=Hk hR rfl hs.1
  exact CJ (q2 w (Fy.refl w)) ⟨_,G',hs.2,hR.put q1⟩
 ·exact hs.elim
theorem fi (h:R F st a w G) {d:Option Nat} {g:Bool} {x:V} {v:Value} (hg:g=true) (hx:Ak w G x v):R F (st.put d (.g g x)) (a.put d v) w G:=
 h.put (by simp only [Ak];rw [if_pos hg];exact hx)
theorem Wm (h:R F st a w G) {d:Option Nat} {g:Bool} {x:V} (hg:g=false):R F (st.put d (.g g x)) (a.put d Go.undef) w G:=
 h.put (by simp [Ak,hg])
theorem cg {o:Oper} {f:FuncId} {xs:List Operand} (hk:Cf o.op= .call f xs) (he:ent P f=true) (w:World):(execOp a.eval o).run P w= .ok (.enter f (xs.map a.eval).toArray) w:=by
 unfold Cf at hk
 split at hk<;>try (cases hk;done)
 rename_i c ho
 split at hk<;>try (cases hk;done)
 rename_i f' hcal
 injection hk with hk1 hk2
 subst hk1 hk2
 simp [execOp,ho,resolve,hcal,Act.eval,Deferred.ofValue,invoke,run_callFunc' he]
 apply Array.ext';simp
theorem Wn (h:R F st a w G) {f:FuncId} {g:Bool} (hg:g=true) {xs:List Operand} (h1:(st.args g xs).1) (h2:Ce ((st.args g xs).2.map (BM st))=true) {r:V} (hr:r.flat=true)
 (hc:AQ P F.I f ((st.args g xs).2.map (BM st)) (· =r)) {w':World} (ho:PX w w') (hs:Fy w w'):
 Calls P f (xs.map a.eval).toArray w' (fun e w''=>e= .returned (fe r)∧Below w'.heap.size w' w''):=by
 have hR:=h.same ho hs
 have hav: ∀ b,b<w'.heap.size→(G.wr b∧ ∀ id∈CH (st.args g xs).2,G.blk id ≠ some b)→G.wr b:=fun _ _ q=>q.1
 have h3:=HE hR (av:=fun b=>G.wr b∧ ∀ id∈CH (st.args g xs).2,G.blk id ≠ some b) hav (fun id hi _ b hb hw=>hw.2 id hi hb) h2 (by simpa using hR.args hg h1)
 refine(hc.run w' _ (fun b=>G.wr b∧ ∀ id∈CH (st.args g xs).2,G.blk id ≠ some b) (hR.inv w' hR.hsize hR.ext) (fun b hb=>hR.avlt' hb.1) (by simpa using h3)).mono fun e w'' ⟨v,r',he,hq,_,hv,hb⟩=>?_
 subst hq
 rw [EM hr]at hv
 exact⟨by rw [he,hv],hb⟩
theorem ZR (h:R F st a w G) {o:Oper} {g:Bool} {K:St→Prop} {Q:Exit→Act→World→Prop} (hs:vt P F.I o st g K):
 if g=true then o.wp P a w (oe F K) Q else oe F K (a.put o.dst Go.undef) w:=by
 unfold vt at hs
 rcases hs with hs | hs
 ·split
  ·rename_i hg;exact NI h (hs.1 hg)
  ·rename_i hg
   have hg':g=false:=by simpa using hg
   obtain⟨x,st',h1,h2⟩:=hs.2 hg'
   exact⟨st',G,h2,(Wm h hg').less h1⟩
 split at hs
 ·obtain⟨x,hx,hs⟩:=hs
  split
  ·rename_i hg
   obtain⟨v,q1,q2⟩:=Hk h hg (hx hg).1
   rw [(hx hg).2]at q1
   exact CJ (q2 w (Fy.refl w)) ⟨_,G,hs,fi h hg q1⟩
  ·rename_i hg
   exact⟨_,G,hs,Wm h (by simpa using hg)⟩
 ·rename_i f xs hk
  obtain⟨h1,r,hr,hc,hK⟩:=hs
  split
  ·rename_i hg
   unfold Oper.wp Oper.upon
   rw [cg hk (hc hg).ent w]
   rcases hr with hr | hne
   rotate_left
   ·have hp:=(h1 hg).2
    have h2:=HE h (av:=fun b=>G.wr b) (fun _ _ q=>q) (by rw [hne];simp) hp (by simpa using h.args hg (h1 hg).1:AJ w G (st.args g xs).2 (xs.map a.eval))
    refine((hc hg).run w (xs.map a.eval).toArray (fun b=>G.wr b) (h.inv w h.hsize h.ext) (fun b hb=>h.avlt' hb) (by simpa using h2)).mono fun e w' ⟨v,r',he,hq,hpr,hr',hb⟩=>?_
    subst he hq
    exact⟨_,G,hK,fi (h.same (Gn hb) (FG hb)) hg (Wd (G:=G) (fun _ _ q=>q) hpr hr')⟩
   refine(Wn h hg (h1 hg).1 (h1 hg).2 hr (hc hg) ⟨rfl,rfl,rfl⟩ (Fy.refl w)).mono fun e w' ⟨he,hb⟩=>?_
   subst he
   exact⟨_,G,hK,fi (h.same (Gn hb) (FG hb)) hg ((EM hr).2 rfl)⟩
  ·rename_i hg
   exact⟨_,G,hK,Wm h (by simpa using hg)⟩
 ·exact hs.elim
theorem T3 {Q:Exit→Act→World→Prop} {K:St→Prop} (hQ: ∀ st' a' w' G',K st'→R F st' a' w' G'→Q .normal a' w'):
 ∀ (l:List Oper) (st:St) (a:Act) (w:World) (G:Bj),R F st a w G→CI P F.I ops l st K→wpList P ops Q l a w
 | [],st,a,w,G,h,hs=>hQ st a w G hs h
 | o::rest,st,a,w,G,h,hs=>by
   refine wpList_step fun K' hK'=>?_
   have hnext: ∀ a' w',oe F (fun st'=>CI P F.I ops rest st' K) a' w'→K' a' w':=fun a' w' ⟨st',G',q,hR⟩=>
    hK' a' w' (T3 hQ rest st' a' w' G' hR q)
   have hmono: ∀ {o:Oper},o.wp P a w (oe F (fun st'=>CI P F.I ops rest st' K)) Q→o.wp P a w K' Q:=fun {o} hw=>by
    unfold Oper.wp Oper.upon at *
    generalize (execOp a.eval o).run P w=r at *
    cases r with
    | ok n w'=>
      cases n<;>simp only at hw ⊢ <;>first
       | exact hnext _ _ hw
       | exact hw.mono fun e w'' he=>by cases e<;>first | exact hnext _ _ he | exact he
       | exact Rows.mono hw fun v w'' he=>hnext _ _ he
       | exact hw
    | halt x w'=>cases x<;>exact hw
   simp only [CI,mS]at hs
   split at hs
   ·rename_i hg
    rw [Me hg,if_pos rfl]
    exact hmono (NI h hs)
   ·rename_i j want hg
    split at hs
    ·rename_i g hq
     rw [HF h hg hq]
     have:=ZR (Q:=Q) h hs
     split
     ·rename_i hgt;rw [if_pos hgt]at this;exact hmono this
     ·rename_i hgt;rw [if_neg hgt]at this;exact hnext _ _ this
    ·exact hs.elim
end
end Go.PL
