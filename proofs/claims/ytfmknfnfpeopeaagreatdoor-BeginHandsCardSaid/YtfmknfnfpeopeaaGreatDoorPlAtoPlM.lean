/- The pure logic: PlA, PlB, PlC, PlD, PlE, PlF, PlG, PlH, PlI, PlJ, PlK, PlL, PlLe, PlM. -/
import Derived.WalkKit
import Derived.WalkSpells
import Derived.WalkLawsBesides
import Derived.Deep.MidRow
import Derived.Deep.LoopGhost
import Derived.Deep.QuietTactic
import Derived.BigQuiet
import Derived.Laws.StructEq
import Derived.DeepKeys
set_option linter.all false
namespace Go.PL
open Go Go.RowKit
abbrev Ah:=List Nat
inductive C where
 | int (k:IntKind) (n:Int)
 | bool (b:Bool)
 | str (s:List UInt8)
 | sl (len:Nat) (cs:List C)
 | osl (id:Ah)
 | ptr (id:Ah) (off:Nat)
 | bsl (id:Ah) (off len:Nat)
 | bld (id:Ah) (T:TypeId)
 | iptr (cs:List C) (off:Nat)
 | nilp
 | niface
 | nils
 | fn (f:FuncId)
 | clo (f:FuncId) (cs:List C)
 | held
 | any
 | mref (id:Ah)
 | gptr (g off:Nat)
 | bmv (f:FuncId) (cs:List C)
 | mp (kv:List (Int×Int))
 | isl (E:TypeId) (n len:Nat) (cs:List C)
 | rsl (id:Ah) (N off len:Nat)
inductive V where
 | c (x:C)
 | agg (cs:List C)
 | tup (vs:List V)
 | g (b:Bool) (v:V)
 | undef
structure Ay where
 blk:Ah→Option Nat
 own:Ah→Option Value
 wr:Nat→Prop
mutual
def C.pure:C→Bool
 | .osl _=>false
 | .ptr .. =>false
 | .bsl .. =>false
 | .rsl .. =>false
 | .bld .. =>false
 | .mref _=>false
 | .mp _=>false
 | .clo _ cs=>Ao cs
 | .bmv _ cs=>Ao cs
 | _=>true
def Ao:List C→Bool
 | []=>true
 | c::cs=>c.pure&&Ao cs
end
mutual
def Ad (w:World) (G:Ay):C→Value→Prop
 | .int k n,v=>v= .int k n
 | .bool b,v=>v= .bool b
 | .str s,v=>v= .string ⟨s.toArray⟩
 | .sl len cs,v=>Ao cs=true∧ ∃ a cap,v= .slice a len cap∧len≤cap∧cap≤maxLen∧(len=0→cs=[])∧
  (len=0∨ ∃ b off,a=some ⟨b,off,none⟩∧ ¬G.wr b∧b<w.heap.size∧Ak w G cs b off)
 | .osl id,v=>G.own id=some v∧v.oneCell'=true
 | .ptr id off,v=> ∃ b,G.blk id=some b∧v= .pointer (some ⟨b,off,none⟩)
 | .bsl id off len,v=> ∃ b cap o,G.blk id=some b∧v= .slice (some ⟨b,o,none⟩) len cap∧len≤cap∧o≤off∧(len=0∨o=off)
 | .bld id T,v=> ∃ b,G.blk id=some b∧(∃ cur fz,w.heap[b]? =some (.cells cur T fz))∧(v= .pointer none∨v= .pointer (some ⟨b,0,none⟩))
 | .iptr cs off,v=>Ao cs=true∧ ∃ b o,v= .pointer (some ⟨b,o+off,none⟩)∧ ¬G.wr b∧b<w.heap.size∧Ak w G cs b o
 | .nilp,v=>v= .pointer none
 | .niface,v=>v= .nilIface
 | .nils,v=>v= .slice none 0 0
 | .fn f,v=>v= .func (.func f) #[] #[]
 | .clo f cs,v=> ∃ arr:Array Value,v= .func (.func f) #[] arr∧Ai w G cs arr.toList
 | .bmv f cs,v=> ∃ arr:Array Value,v= .func (.func f) arr #[]∧Ai w G cs arr.toList
 | .held,v=> ∃ t x,v= .iface t x
 | .any,v=>v.oneCell'=true
 | .mref id,v=> ∃ b,G.blk id=some b∧v= .map (some b)
 | .gptr g off,v=>v= .pointer (some ⟨g,off,none⟩)
 | .mp _,_=>False
 | .isl ..,v=>v.oneCell'=true
 | .rsl id N off len,v=> ∃ b len0 cap0 o cap,G.own id=some (.slice (some ⟨b,0,none⟩) len0 cap0)∧v= .slice (some ⟨b,o,none⟩) len cap∧len≤cap∧off+cap=cap0∧(off<cap0→o=off*N)
def Ak (w:World) (G:Ay):List C→Nat→Nat→Prop
 | [],_,_=>True
 | c::cs,b,off=>(∃ v,w.cell? ⟨b,off,none⟩=some v∧Ad w G c v)∧Ak w G cs b (off+1)
def Ai (w:World) (G:Ay):List C→List Value→Prop
 | [],[]=>True
 | c::cs,v::vs=>Ad w G c v∧Ai w G cs vs
 | [],_::_=>False
 | _::_,[]=>False
end
mutual
def Ab (w:World) (G:Ay):V→Value→Prop
 | .c x,v=>Ad w G x v
 | .agg cs,v=> ∃ arr,v= .agg arr∧Ai w G cs arr.toList
 | .tup vs,v=> ∃ arr,v= .tuple arr∧Ap w G vs arr.toList
 | .g b x,v=>if b=true then Ab w G x v else v=Go.undef
 | .undef,_=>True
def Ap (w:World) (G:Ay):List V→List Value→Prop
 | [],vs=>vs=[]
 | x::xs,vs=> ∃ v r,vs=v::r∧Ab w G x v∧Ap w G xs r
end
mutual
def C.men (id:Ah):C→Bool
 | .osl i=>i==id
 | .ptr i _=>i==id
 | .bsl i _ _=>i==id
 | .rsl i _ _ _=>i==id
 | .bld i _=>i==id
 | .mref i=>i==id
 | .clo _ cs=>BE id cs
 | .bmv _ cs=>BE id cs
 | _=>false
def BE (id:Ah):List C→Bool
 | []=>false
 | c::cs=>c.men id||BE id cs
end
mutual
theorem FT (id:Ah): ∀ c:C,c.pure=true→c.men id=false
 | .osl _,h=>by simp [C.pure]at h
 | .ptr ..,h=>by simp [C.pure]at h
 | .bsl ..,h=>by simp [C.pure]at h
 | .rsl ..,h=>by simp [C.pure]at h
 | .bld ..,h=>by simp [C.pure]at h
 | .mref ..,h=>by simp [C.pure]at h
 | .mp ..,h=>by simp [C.pure]at h
 | .isl ..,_=>by simp [C.men]
 | .gptr ..,_=>by simp [C.men]
 | .clo _ cs,h=>by simp only [C.men];exact AG id cs (by simpa only [C.pure] using h)
 | .bmv _ cs,h=>by simp only [C.men];exact AG id cs (by simpa only [C.pure] using h)
 | .sl ..,_=>by simp [C.men]
 | .iptr ..,_=>by simp [C.men]
 | .int ..,_=>by simp [C.men]
 | .bool _,_=>by simp [C.men]
 | .str _,_=>by simp [C.men]
 | .nilp,_=>by simp [C.men]
 | .niface,_=>by simp [C.men]
 | .nils,_=>by simp [C.men]
 | .fn _,_=>by simp [C.men]
 | .held,_=>by simp [C.men]
 | .any,_=>by simp [C.men]
theorem AG (id:Ah): ∀ cs:List C,Ao cs=true→BE id cs=false
 | [],_=>by simp [BE]
 | c::cs,h=>by
   simp only [Ao,Bool.and_eq_true]at h
   simp [BE,FT id c h.1,AG id cs h.2]
end
theorem Cc: ∀ l:List C,Ao l=l.all C.pure
 | []=>rfl
 | c::l=>by simp [Ao,Cc l]
theorem Bk (l m:List C):Ao (l++m)=(Ao l&&Ao m):=by simp [Cc]
theorem Ks {α:Type} (f:α→C) (h: ∀ x,(f x).pure =true) (l:List α):Ao (l.map f)=true:=by simp [Cc,h]
theorem AF {α:Type} (f:α→List C) (h: ∀ x,Ao (f x)=true): ∀ l:List α,Ao (l.flatMap f)=true
 | []=>rfl
 | a::l=>by rw [List.flatMap_cons,Bk,h,AF f h l];rfl
theorem IZ {l:List C} (n:Nat) (h:Ao l=true):Ao (l.take n)=true:=by
 rw [Cc,List.all_eq_true]at *
 exact fun x hx=>h x (List.mem_of_mem_take hx)
theorem I1 {l:List C} (n:Nat) (h:Ao l=true):Ao (l.drop n)=true:=by
 rw [Cc,List.all_eq_true]at *
 exact fun x hx=>h x (List.mem_of_mem_drop hx)
theorem bx {l:List C} (n:Nat) (h:Ao l=true):(l.getD n .any).pure =true:=by
 rw [List.getD_eq_getElem?_getD]
 cases hx:l[n]? with
 | none=>rfl
 | some x=>rw [Cc,List.all_eq_true]at h;exact h x (List.mem_of_getElem? hx)
def HK (S:Ah→Prop) (G G':Ay):Prop:= ∀ id,S id→G'.blk id=G.blk id∧G'.own id=G.own id
def BX (w w':World) (b:Nat):Prop:= ∀ cur T fz,w.heap[b]? =some (.cells cur T fz)→ ∃ cur' fz',w'.heap[b]? =some (.cells cur' T fz')
theorem BX.same {w w':World} {b:Nat} (h:w'.heap[b]? =w.heap[b]?):BX w w' b:=fun cur _ fz q=>⟨cur,fz,h.trans q⟩
structure B3 (G G':Ay) (w w':World):Prop where
 size:w.heap.size≤w'.heap.size
 block: ∀ b,b<w.heap.size→ ¬G.wr b→w'.heap[b]? =w.heap[b]?
 wr: ∀ b,b<w.heap.size→G'.wr b→G.wr b
 ty: ∀ i b,G.blk i=some b→G'.blk i=some b→BX w w' b
mutual
theorem Ad.one {w:World} {G:Ay}: ∀ {c:C} {v:Value},Ad w G c v→v.oneCell'=true
 | .int ..,v,h=>by simp only [Ad]at h;subst h;rfl
 | .bool ..,v,h=>by simp only [Ad]at h;subst h;rfl
 | .str ..,v,h=>by simp only [Ad]at h;subst h;rfl
 | .sl ..,v,h=>by simp only [Ad]at h;obtain⟨_,a,cap,rfl,_⟩:=h;rfl
 | .osl _,v,h=>by simp only [Ad]at h;exact h.2
 | .ptr ..,v,h=>by simp only [Ad]at h;obtain⟨b,_,rfl⟩:=h;rfl
 | .bsl ..,v,h=>by simp only [Ad]at h;obtain⟨b,cap,o,_,rfl,_⟩:=h;rfl
 | .rsl ..,v,h=>by simp only [Ad]at h;obtain⟨_,_,_,_,_,_,rfl,_⟩:=h;rfl
 | .bld ..,v,h=>by simp only [Ad]at h;obtain⟨b,_,_,rfl | rfl⟩:=h<;>rfl
 | .iptr ..,v,h=>by simp only [Ad]at h;obtain⟨_,b,o,rfl,_⟩:=h;rfl
 | .nilp,v,h=>by simp only [Ad]at h;subst h;rfl
 | .niface,v,h=>by simp only [Ad]at h;subst h;rfl
 | .nils,v,h=>by simp only [Ad]at h;subst h;rfl
 | .fn _,v,h=>by simp only [Ad]at h;subst h;rfl
 | .clo ..,v,h=>by simp only [Ad]at h;obtain⟨arr,rfl,_⟩:=h;rfl
 | .bmv ..,v,h=>by simp only [Ad]at h;obtain⟨arr,rfl,_⟩:=h;rfl
 | .held,v,h=>by simp only [Ad]at h;obtain⟨t,x,rfl⟩:=h;rfl
 | .any,v,h=>by simp only [Ad]at h;exact h
 | .mref ..,v,h=>by simp only [Ad]at h;obtain⟨b,_,rfl⟩:=h;rfl
 | .mp ..,v,h=>by simp only [Ad]at h
 | .isl ..,v,h=>by simp only [Ad]at h;exact h
 | .gptr ..,v,h=>by simp only [Ad]at h;subst h;rfl
end
theorem cell?_of_block' {w w':World} {b:Nat} (h:w'.heap[b]? =w.heap[b]?) (o:Nat):w'.cell? ⟨b,o,none⟩=w.cell? ⟨b,o,none⟩:=
 World.cell?_of_block (a:=⟨b,o,none⟩) h
mutual
theorem Ad.mono {w w':World} {G G':Ay} (hk:B3 G G' w w'): ∀ (c:C) (v:Value),HK (fun id=>c.men id=true) G G'→Ad w G c v→Ad w' G' c v
 | .int ..,_,_,h=>by simpa only [Ad] using h
 | .bool ..,_,_,h=>by simpa only [Ad] using h
 | .str ..,_,_,h=>by simpa only [Ad] using h
 | .sl len cs,v,ha,h=>by
   simp only [Ad]at h ⊢
   obtain⟨hp,a,cap,h1,h2,h3,h4,h5⟩:=h
   refine⟨hp,a,cap,h1,h2,h3,h4,?_⟩
   rcases h5 with h5 | ⟨b,off,e,hm,hb,hr⟩
   ·exact .inl h5
   ·exact .inr ⟨b,off,e,fun hm'=>hm (hk.wr b hb hm'),Nat.lt_of_lt_of_le hb hk.size,Ak.mono hk cs b off (fun id hid=>absurd (show BE id cs=true from hid) (by rw [AG id cs hp];simp)) (fun o=>cell?_of_block' (hk.block b hb hm) o) hr⟩
 | .osl id,v,ha,h=>by
   simp only [Ad]at h ⊢
   rw [(ha id (by simp [C.men])).2];exact h
 | .ptr id off,v,ha,h=>by
   simp only [Ad]at h ⊢
   rw [(ha id (by simp [C.men])).1];exact h
 | .bsl id off len,v,ha,h=>by
   simp only [Ad]at h ⊢
   rw [(ha id (by simp [C.men])).1];exact h
 | .rsl id N off len,v,ha,h=>by
   simp only [Ad]at h ⊢
   rw [(ha id (by simp [C.men])).2];exact h
 | .bld id T,v,ha,h=>by
   simp only [Ad]at h ⊢
   obtain⟨b,h1,⟨cur,fz,h2⟩,h3⟩:=h
   have h4:G'.blk id=some b:=by rw [(ha id (by simp [C.men])).1];exact h1
   exact⟨b,h4,hk.ty id b h1 h4 cur T fz h2,h3⟩
 | .iptr cs off,v,ha,h=>by
   simp only [Ad]at h ⊢
   obtain⟨hp,b,o,e,hm,hb,hr⟩:=h
   exact⟨hp,b,o,e,fun hm'=>hm (hk.wr b hb hm'),Nat.lt_of_lt_of_le hb hk.size,Ak.mono hk cs b o (fun id hid=>absurd (show BE id cs=true from hid) (by rw [AG id cs hp];simp)) (fun o=>cell?_of_block' (hk.block b hb hm) o) hr⟩
 | .nilp,_,_,h=>by simpa only [Ad] using h
 | .niface,_,_,h=>by simpa only [Ad] using h
 | .nils,_,_,h=>by simpa only [Ad] using h
 | .fn _,_,_,h=>by simpa only [Ad] using h
 | .clo f cs,v,ha,h=>by
   simp only [Ad]at h ⊢
   obtain⟨arr,e,hr⟩:=h
   exact⟨arr,e,Ai.mono hk cs _ (fun id hid=>ha id (by simpa only [C.men] using hid)) hr⟩
 | .bmv f cs,v,ha,h=>by
   simp only [Ad]at h ⊢
   obtain⟨arr,e,hr⟩:=h
   exact⟨arr,e,Ai.mono hk cs _ (fun id hid=>ha id (by simpa only [C.men] using hid)) hr⟩
 | .held,_,_,h=>by simpa only [Ad] using h
 | .any,_,_,h=>by simpa only [Ad] using h
 | .mref id,v,ha,h=>by
   simp only [Ad]at h ⊢
   rw [(ha id (by simp [C.men])).1];exact h
 | .mp ..,_,_,h=>by simp only [Ad]at h
 | .isl ..,_,_,h=>by simpa only [Ad] using h
 | .gptr ..,_,_,h=>by simpa only [Ad] using h
theorem Ak.mono {w w':World} {G G':Ay} (hk:B3 G G' w w'): ∀ (cs:List C) (b off:Nat),HK (fun id=>BE id cs=true) G G'→(∀ o,w'.cell? ⟨b,o,none⟩=w.cell? ⟨b,o,none⟩)→Ak w G cs b off→Ak w' G' cs b off
 | [],_,_,_,_,h=>by simp only [Ak]
 | c::cs,b,off,ha,hc,h=>by
   simp only [Ak]at h ⊢
   obtain⟨⟨v,hv,hr⟩,hrest⟩:=h
   exact⟨⟨v,by rw [hc];exact hv,Ad.mono hk c v (fun id hid=>ha id (by simp only [BE,hid,Bool.true_or])) hr⟩,
    Ak.mono hk cs b (off+1) (fun id hid=>ha id (by simp only [BE,hid,Bool.or_true])) hc hrest⟩
theorem Ai.mono {w w':World} {G G':Ay} (hk:B3 G G' w w'): ∀ (cs:List C) (vs:List Value),HK (fun id=>BE id cs=true) G G'→Ai w G cs vs→Ai w' G' cs vs
 | [],[],_,_=>by simp only [Ai]
 | [],_::_,_,h=>by simp only [Ai]at h
 | _::_,[],_,h=>by simp only [Ai]at h
 | c::cs,v::vs,ha,h=>by
   simp only [Ai]at h ⊢
   exact⟨Ad.mono hk c v (fun id hid=>ha id (by simp only [BE,hid,Bool.true_or])) h.1,
    Ai.mono hk cs vs (fun id hid=>ha id (by simp only [BE,hid,Bool.or_true])) h.2⟩
end
mutual
def V.men (id:Ah):V→Bool
 | .c x=>x.men id
 | .agg cs=>BE id cs
 | .tup vs=>Ig id vs
 | .g b v=>v.men id&&b
 | .undef =>false
def Ig (id:Ah):List V→Bool
 | []=>false
 | v::vs=>v.men id||Ig id vs
end
mutual
theorem Ab.mono {w w':World} {G G':Ay} (hk:B3 G G' w w'): ∀ (x:V) (v:Value),HK (fun id=>x.men id=true) G G'→Ab w G x v→Ab w' G' x v
 | .c x,v,ha,h=>by simp only [Ab]at h ⊢;exact Ad.mono hk x v (by simpa only [V.men] using ha) h
 | .agg cs,v,ha,h=>by
   simp only [Ab]at h ⊢
   obtain⟨arr,e,hr⟩:=h
   exact⟨arr,e,Ai.mono hk cs _ (by simpa only [V.men] using ha) hr⟩
 | .tup vs,v,ha,h=>by
   simp only [Ab]at h ⊢
   obtain⟨arr,e,hr⟩:=h
   exact⟨arr,e,Ap.mono hk vs _ (by simpa only [V.men] using ha) hr⟩
 | .g b x,v,ha,h=>by
   simp only [Ab]at h ⊢
   split
   ·rename_i hb;rw [if_pos hb]at h;exact Ab.mono hk x v (fun id hid=>ha id (by simp only [V.men,hb,hid,Bool.and_self])) h
   ·rename_i hb;rw [if_neg hb]at h;exact h
 | .undef,_,_,_=>by simp only [Ab]
theorem Ap.mono {w w':World} {G G':Ay} (hk:B3 G G' w w'): ∀ (xs:List V) (vs:List Value),HK (fun id=>Ig id xs=true) G G'→Ap w G xs vs→Ap w' G' xs vs
 | [],_,_,h=>by simpa only [Ap] using h
 | x::xs,vs,ha,h=>by
   simp only [Ap]at h ⊢
   obtain⟨v,r,e,h1,h2⟩:=h
   exact⟨v,r,e,Ab.mono hk x v (fun id hid=>ha id (by simp only [Ig,hid,Bool.true_or])) h1,
    Ap.mono hk xs r (fun id hid=>ha id (by simp only [Ig,hid,Bool.or_true])) h2⟩
end
theorem Ai.length {w:World} {G:Ay}: ∀ {cs:List C} {vs:List Value},Ai w G cs vs→cs.length=vs.length
 | [],[],_=>rfl
 | [],_::_,h=>by simp only [Ai]at h
 | _::_,[],h=>by simp only [Ai]at h
 | c::cs,v::vs,h=>by
   simp only [Ai]at h
   simp [Ai.length h.2]
theorem Ai.get {w:World} {G:Ay}: ∀ {cs:List C} {vs:List Value},Ai w G cs vs→ ∀ (i:Nat) (c:C),cs[i]? =some c→ ∃ v,vs[i]? =some v∧Ad w G c v
 | [],[],_,i,c,hc=>by simp at hc
 | [],_::_,h,_,_,_=>by simp only [Ai]at h
 | _::_,[],h,_,_,_=>by simp only [Ai]at h
 | c::cs,v::vs,h,i,d,hd=>by
   simp only [Ai]at h
   cases i with
   | zero=>simp at hd;subst hd;exact⟨v,by simp,h.1⟩
   | succ i=>simp at hd;obtain⟨v',h1,h2⟩:=Ai.get h.2 i d hd;exact⟨v',by simpa using h1,h2⟩
theorem Ai.one {w:World} {G:Ay}: ∀ {cs:List C} {vs:List Value},Ai w G cs vs→ ∀ v∈vs,v.oneCell'=true
 | [],[],_,v,hv=>by cases hv
 | [],_::_,h,_,_=>by simp only [Ai]at h
 | _::_,[],h,_,_=>by simp only [Ai]at h
 | c::cs,v::vs,h,u,hu=>by
   simp only [Ai]at h
   rcases List.mem_cons.1 hu with rfl | hu
   ·exact Ad.one h.1
   ·exact Ai.one h.2 u hu
theorem Ai.drop {w:World} {G:Ay}: ∀ {cs:List C} {vs:List Value},Ai w G cs vs→ ∀ n,Ai w G (cs.drop n) (vs.drop n)
 | cs,vs,h,0=>by simpa using h
 | [],[],h,n+1=>by simp [Ai]
 | [],_::_,h,_+1=>by simp only [Ai]at h
 | _::_,[],h,_+1=>by simp only [Ai]at h
 | c::cs,v::vs,h,n+1=>by simp only [Ai]at h;simpa using Ai.drop h.2 n
theorem Ai.take {w:World} {G:Ay}: ∀ {cs:List C} {vs:List Value},Ai w G cs vs→ ∀ n,Ai w G (cs.take n) (vs.take n)
 | cs,vs,h,0=>by simp [Ai]
 | [],[],h,n+1=>by simp [Ai]
 | [],_::_,h,_+1=>by simp only [Ai]at h
 | _::_,[],h,_+1=>by simp only [Ai]at h
 | c::cs,v::vs,h,n+1=>by
   simp only [Ai]at h
   simp only [List.take_succ_cons,Ai]
   exact⟨h.1,Ai.take h.2 n⟩
theorem Ai.append {w:World} {G:Ay}: ∀ {cs:List C} {vs:List Value} {ds:List C} {us:List Value},Ai w G cs vs→Ai w G ds us→Ai w G (cs++ds) (vs++us)
 | [],[],_,_,_,h'=>by simpa using h'
 | [],_::_,_,_,h,_=>by simp only [Ai]at h
 | _::_,[],_,_,h,_=>by simp only [Ai]at h
 | c::cs,v::vs,ds,us,h,h'=>by
   simp only [Ai]at h
   simp only [List.cons_append,Ai]
   exact⟨h.1,Ai.append h.2 h'⟩
theorem Ak.list {w:World} {G:Ay}: ∀ {cs:List C} {b off:Nat},Ak w G cs b off→ ∃ vs,Ai w G cs vs∧w.rangeAt b off vs
 | [],b,off,_=>⟨[],by simp only [Ai],fun j v h=>by simp at h⟩
 | c::cs,b,off,h=>by
   simp only [Ak]at h
   obtain⟨⟨v,hv,hr⟩,hrest⟩:=h
   obtain⟨vs,h1,h2⟩:=Ak.list hrest
   refine⟨v::vs,by simp only [Ai];exact⟨hr,h1⟩,fun j u hu=>?_⟩
   cases j with
   | zero=>simp at hu;subst hu;simpa using hv
   | succ j=>simp at hu;have:=h2 j u hu;rw [show off+(j+1)=off+1+j by omega];exact this
theorem Ak.of_list {w:World} {G:Ay}: ∀ {cs:List C} {vs:List Value} {b off:Nat},Ai w G cs vs→w.rangeAt b off vs→Ak w G cs b off
 | [],[],b,off,_,_=>by simp only [Ak]
 | [],_::_,_,_,h,_=>by simp only [Ai]at h
 | _::_,[],_,_,h,_=>by simp only [Ai]at h
 | c::cs,v::vs,b,off,h,hr=>by
   simp only [Ai]at h
   simp only [Ak]
   refine⟨⟨v,by simpa using hr 0 v (by simp),h.1⟩,Ak.of_list h.2 (fun j u hu=>?_)⟩
   have:=hr (j+1) u (by simpa using hu)
   rw [show off+1+j=off+(j+1) by omega];exact this
theorem Ak.drop {w:World} {G:Ay} {cs:List C} {b off:Nat} (h:Ak w G cs b off) (n:Nat):Ak w G (cs.drop n) b (off+n):=by
 obtain⟨vs,h1,h2⟩:=h.list
 refine Ak.of_list (h1.drop n) (fun j v hv=>?_)
 rw [List.getElem?_drop]at hv
 have:=h2 _ v hv
 rw [show off+n+j=off+(n+j) by omega];exact this
theorem Ak.take {w:World} {G:Ay} {cs:List C} {b off:Nat} (h:Ak w G cs b off) (n:Nat):Ak w G (cs.take n) b off:=by
 obtain⟨vs,h1,h2⟩:=h.list
 refine Ak.of_list (h1.take n) (fun j v hv=>?_)
 rw [List.getElem?_take]at hv
 split at hv
 ·exact h2 j v hv
 ·cases hv
end Go.PL
namespace Go.PL
open Go Go.RowKit
structure As where
 id:Ah
 row:Option (TypeId×Nat×Nat)
 cs:List C
 pu:Bool:=false
structure St where
 tm:List V
 so:List As
 gh:List V:=[]
 pre:Ah:=[]
structure Fr where
 w0:World
 av:Nat→Prop
 old:Nat→Prop
 I:World→Prop
 gv:List Value:=[]
def l5 (kv:List (Int×Int)) (es:List MapEntry):Prop:=
 es=kv.zipIdx.map fun p=>⟨.int .i64 p.1.1, .int .i64 p.1.2,p.2⟩
def dq (w:World) (G:Ay) (cs:List C) (b:Nat):Prop:=
 (∃ kv es,cs=[.mp kv]∧w.heap[b]? =some (.map es kv.length)∧l5 kv es.toList∧(kv.map (·.1)).Nodup)∨
 (∃ T cur,w.heap[b]? =some (.cells cur T (0,0))∧cur.size=cs.length∧Ak w G cs b 0)
def Vk:List C→Bool
 | [.mp _]=>true
 | _=>false
theorem dq.cells {w:World} {G:Ay} {cs:List C} {b:Nat} (h:dq w G cs b) (hn:Vk cs=false): ∃ T cur,w.heap[b]? =some (.cells cur T (0,0))∧cur.size=cs.length∧Ak w G cs b 0:=by
 rcases h with ⟨kv,es,rfl,_⟩ | h
 ·cases hn
 ·exact h
def AX (w:World) (G:Ay) (e:As):Prop:=
 match e.row with
 | none=> ∃ b,G.blk e.id=some b∧dq w G e.cs b
 | some (E,n,len)=>e.cs.length=len*n∧ ∃ v,G.own e.id=some v∧
  ((∃ p,v= .slice p 0 0∧len=0∧G.blk e.id=none)∨
   ∃ b cap cur,v= .slice (some ⟨b,0,none⟩) len cap∧G.blk e.id=some b∧w.heap[b]? =some (.cells cur E (0,0))∧len≤cap∧cap≤maxLen∧cur.size=cap*n∧Ak w G e.cs b 0)
def CJ:Ah→Bool
 | []=>false
 | d::_=>Nat.beq d 1000007
def Ed:Ah→Bool
 | []=>false
 | d::_=>Nat.beq d 1000003
def BH (k:Nat) (id:Ah):Ah:=1000007::k::id
theorem L8 {k j:Nat} {a b:Ah} (h:BH k a=BH j b):k=j∧a=b:=by
 unfold BH at h
 injection h with _ h
 injection h with h1 h2
 exact⟨h1,h2⟩
theorem WF (k:Nat) (id:Ah):CJ (BH k id)=true:=rfl
def Em (w:World) (G:Ay) (e:As):Prop:=
 ∀ k E n len cs,e.cs[k]? =some (.isl E n len cs)→Ao cs=true∧AX w G ⟨BH k e.id,some (E,n,len),cs,true⟩∧
   ∃ b v,G.blk e.id=some b∧w.cell? ⟨b,k,none⟩=some v∧G.own (BH k e.id)=some v
def Bi (w:World) (G:Ay) (e:As):Prop:=CJ e.id=false∧(Ed e.id=true→e.pu=true∧e.row.isSome=true∧Em w G e)
structure R (F:Fr) (st:St) (a:Act) (w:World) (G:Ay):Prop where
 dfr:a.defers=[]
 size:a.tmps.size=st.tm.length
 slots: ∀ i,Ab w G (st.tm.getD i .undef) (a.tmps.getD i Go.undef)
 ghosts:Ap w G st.gh F.gv
 store: ∀ e∈st.so,AX w G e
 deep: ∀ e∈st.so,Bi w G e
 pures: ∀ e∈st.so,e.pu=true→Ao e.cs=true
 nodup:(st.so.map (·.id)).Nodup
 inj: ∀ i j b,G.blk i=some b→G.blk j=some b→i=j
 lt: ∀ i b,G.blk i=some b→b<w.heap.size
 new: ∀ i b,G.blk i=some b→F.w0.heap.size≤b∨F.old b
 wr: ∀ b,G.wr b↔F.av b∨ ∃ i,G.blk i=some b
 avlt: ∀ b,F.av b→b<F.w0.heap.size
 inv: ∀ w',F.w0.heap.size≤w'.heap.size→(∀ b,b<F.w0.heap.size→ ¬F.old b→w'.heap[b]? =F.w0.heap[b]?)→F.I w'
 avold: ∀ b,F.old b→ ¬F.av b
 os:w.os=F.w0.os
 tape:w.tape=F.w0.tape
 output:w.output=F.w0.output
 hsize:F.w0.heap.size≤w.heap.size
 ext: ∀ b,b<F.w0.heap.size→ ¬F.old b→w.heap[b]? =F.w0.heap[b]?
def St.get (st:St) (t:Nat):V:=st.tm.getD t .undef
def St.put (st:St) (d:Option Nat) (v:V):St:=
 match d with
 | some d=>{st with tm:=st.tm.set d v}
 | none=>st
def D7:Value→Option C
 | .int k n=>some (.int k n)
 | .bool b=>some (.bool b)
 | .string s=>some (.str s.data.toList)
 | .pointer none=>some .nilp
 | .nilIface =>some .niface
 | .slice none 0 0=>some (.sl 0 [])
 | .map none=>some .any
 | _=>none
def Dh:List Value→Option (List C)
 | []=>some []
 | v::vs=>match D7 v,Dh vs with
   | some c,some cs=>some (c::cs)
   | _,_=>none
def I2:Value→V
 | .agg cs=>match Dh cs.toList with
   | some l=> .agg l
   | none=> .undef
 | v=>match D7 v with
   | some c=> .c c
   | none=> .undef
def St.ev (st:St):Operand→V
 | .tmp t=>st.get t
 | .const v=>I2 v
 | .func f=> .c (.fn f)
 | .global _=> .undef
def St.arg (st:St) (g:Bool) (x:Operand):Prop×V:=
 match st.ev x with
 | .g c v=>(g=true→c=true,v)
 | v=>(True,v)
theorem Lg {w:World} {G:Ay}: ∀ {v:Value} {c:C},D7 v=some c→Ad w G c v:=by
 intro v c h
 unfold D7 at h
 split at h<;>first | (cases h;done) | (injection h with h;subst h;simp [Ad];try rfl)
 ·exact⟨rfl,none,0,⟨rfl,rfl⟩,by simp [maxLen]⟩
theorem Fn {w:World} {G:Ay}: ∀ {vs:List Value} {cs:List C},Dh vs=some cs→Ai w G cs vs
 | [],cs,h=>by simp [Dh]at h;subst h;simp [Ai]
 | v::vs,cs,h=>by
   unfold Dh at h
   split at h
   ·rename_i c cs' h1 h2
    injection h with h;subst h
    simp only [Ai]
    exact⟨Lg h1,Fn h2⟩
   ·cases h
theorem Vl {w:World} {G:Ay} (v:Value):Ab w G (I2 v) v:=by
 unfold I2
 split
 ·split
  ·rename_i h;simp only [Ab];exact⟨_,rfl,Fn h⟩
  ·simp only [Ab]
 ·split
  ·rename_i h;simp only [Ab];exact Lg h
  ·simp only [Ab]
theorem R.ev {F:Fr} {st:St} {a:Act} {w:World} {G:Ay} (h:R F st a w G) (x:Operand):Ab w G (st.ev x) (a.eval x):=by
 cases x with
 | tmp t=>exact h.slots t
 | const v=>exact Vl v
 | func f=>simp [St.ev,Act.eval,Ab,Ad]
 | global g=>simp [St.ev,Ab]
theorem R.arg {F:Fr} {st:St} {a:Act} {w:World} {G:Ay} (h:R F st a w G) {g:Bool} (hg:g=true) {x:Operand} (hs:(st.arg g x).1):Ab w G (st.arg g x).2 (a.eval x):=by
 have:=h.ev x
 unfold St.arg at *
 split at hs
 ·rename_i c v he
  rw [he]at this
  simp only [Ab]at this
  rw [if_pos (hs hg)]at this
  simpa [he] using this
 ·exact this
def Ir (P:Program) (t:TypeId):Option (Bool×Nat):=
 match P.underlying t,P.info? t with
 | some d,some i=>some (d.isRow,i.size)
 | _,_=>none
def CZ (P:Program) (t:TypeId):Option (TypeId×Nat):=
 match P.underlying t with
 | some (.slice e)=>match P.info? e with
   | some i=>some (e,i.size)
   | none=>none
 | _=>none
def FV (P:Program) (t:TypeId):Option (Nat×TypeId×Nat):=
 match P.underlying t with
 | some (.array n e)=>match P.info? e with
   | some i=>some (n,e,i.size)
   | none=>none
 | _=>none
def dt (P:Program) (t:TypeId) (f:Nat):Option (Nat×Bool×Nat):=
 match P.underlying t with
 | some (.struct fs)=>match fs[f]? with
   | some x=>match Ir P x.type with
     | some (ag,n)=>some (x.offset,ag,n)
     | none=>none
   | none=>none
 | _=>none
def ED (P:Program) (t:TypeId):Bool:=
 match P.underlying t with
 | some .string =>true
 | _=>false
theorem C8 {P:Program} {t:TypeId} {ag:Bool} {n:Nat} (h:Ir P t=some (ag,n)): ∃ d i,P.underlying t=some d∧d.isRow=ag∧P.info? t=some i∧i.size=n:=by
 unfold Ir at h
 split at h
 ·rename_i d i h1 h2;simp only [Option.some.injEq,Prod.mk.injEq]at h;exact⟨d,i,h1,h.1,h2,h.2⟩
 ·cases h
theorem Dp {P:Program} {t e:TypeId} {n:Nat} (h:CZ P t=some (e,n)):P.underlying t=some (.slice e)∧ ∃ i,P.info? e=some i∧i.size=n:=by
 unfold CZ at h
 split at h
 ·rename_i d h1
  split at h
  ·rename_i i h2;simp only [Option.some.injEq,Prod.mk.injEq]at h;obtain⟨rfl,h⟩:=h;exact⟨h1,i,h2,h⟩
  ·cases h
 ·cases h
theorem I3 {P:Program} {t e:TypeId} {k n:Nat} (h:FV P t=some (k,e,n)):P.underlying t=some (.array k e)∧ ∃ i,P.info? e=some i∧i.size=n:=by
 unfold FV at h
 split at h
 ·rename_i m d h1
  split at h
  ·rename_i i h2;simp only [Option.some.injEq,Prod.mk.injEq]at h;obtain⟨rfl,rfl,h⟩:=h;exact⟨h1,i,h2,h⟩
  ·cases h
 ·cases h
structure Cv (w w':World):Prop where
 size:w.heap.size≤w'.heap.size
 block: ∀ b,b<w.heap.size→w'.heap[b]? =w.heap[b]?
theorem Cv.refl (w:World):Cv w w:=⟨Nat.le_refl _,fun _ _=>rfl⟩
theorem Cv.trans {a b c:World} (h:Cv a b) (k:Cv b c):Cv a c:=
 ⟨Nat.le_trans h.size k.size,fun x hx=>(k.block x (Nat.lt_of_lt_of_le hx h.size)).trans (h.block x hx)⟩
theorem Cv.cell {w w':World} (h:Cv w w') {p:Addr} {v:Value} (hv:w.cell? p=some v):w'.cell? p=some v:=by
 have hb:p.block<w.heap.size:=World.block_lt_of_cell? w p hv
 rw [World.cell?_of_block (h.block p.block hb)];exact hv
theorem Cv.range {w w':World} (h:Cv w w') {b o:Nat} {vs:List Value} (hv:w.rangeAt b o vs):w'.rangeAt b o vs:=
 fun j v hj=>h.cell (hv j v hj)
def As.isM (e:As):Bool:=match e.row with
 | none=>Vk e.cs
 | some _=>false
def St.look (st:St) (id:Ah):Option As:=st.so.find? (fun e=>e.id==id&& !(e.isM||Ed e.id))
def St.lookR (st:St) (id:Ah):Option As:=st.so.find? (fun e=>e.id==id&& !e.isM)
theorem M8 {st:St} {id:Ah} {e:As} (h:st.lookR id=some e):e∈st.so∧e.id=id:=
 ⟨List.mem_of_find?_eq_some h,by have:=List.find?_some h;simp only [Bool.and_eq_true,beq_iff_eq]at this;exact this.1⟩
theorem du {st:St} {id:Ah} {e:As} (h:st.lookR id=some e) (hr:e.row=none):Vk e.cs=false:=by
 have:=List.find?_some h;simp only [Bool.and_eq_true,Bool.not_eq_true']at this
 have h2:=this.2
 unfold As.isM at h2
 rw [hr]at h2;exact h2
theorem A0 {st:St} {id:Ah} {e:As} (h:st.look id=some e):e∈st.so∧e.id=id:=
 ⟨List.mem_of_find?_eq_some h,by have:=List.find?_some h;simp only [Bool.and_eq_true,beq_iff_eq]at this;exact this.1⟩
theorem PW {st:St} {id:Ah} {e:As} (h:st.look id=some e) (hr:e.row=none):Vk e.cs=false:=by
 have:=List.find?_some h;simp only [Bool.and_eq_true,Bool.not_eq_true',Bool.or_eq_false_iff]at this
 have h2:=this.2.1
 unfold As.isM at h2
 rw [hr]at h2;exact h2
theorem En {st:St} {id:Ah} {e:As} (h:st.look id=some e):Ed id=false:=by
 have h1:=(A0 h).2
 have:=List.find?_some h;simp only [Bool.and_eq_true,Bool.not_eq_true',Bool.or_eq_false_iff]at this
 rw [←h1];exact this.2.2
theorem AX.row {w:World} {G:Ay} {e:As} (h:AX w G e) (hnm:e.row=none→Vk e.cs=false) {b:Nat} (hb:G.blk e.id=some b):
 ∃ cur T,w.heap[b]? =some (.cells cur T (0,0))∧e.cs.length≤cur.size∧Ak w G e.cs b 0:=by
 unfold AX at h
 split at h
 ·rename_i hrn
  obtain⟨b',h1,hbx⟩:=h
  obtain⟨T,cur,h2,h3,h4⟩:=hbx.cells (hnm hrn)
  rw [hb]at h1;injection h1 with h1;subst h1
  exact⟨cur,T,h2,by omega,h4⟩
 ·obtain⟨hl,v,h1,h2 | ⟨b',cap,cur,e1,e2,e3,e4,e5,e6,e7⟩⟩:=h
  ·obtain⟨p,_,_,h2⟩:=h2;rw [h2]at hb;cases hb
  ·rw [hb]at e2;injection e2 with e2;subst e2
   exact⟨cur,_,e3,by rw [hl,e6];exact Nat.mul_le_mul_right _ e4,e7⟩
def toV (ag:Bool) (off n:Nat) (cs:List C):V:=if ag then .agg ((cs.drop off).take n)else .c (cs.getD off .any)
def C9 (P:Program) (t:TypeId) (st:St):V→Prop×V
 | .c (.ptr id off)=>match Ir P t,st.lookR id with
   | some (ag,n),some e=>(off+n≤e.cs.length∧(ag=true∨0<n),toV ag off n e.cs)
   | _,_=>(False, .undef)
 | .c (.iptr cs off)=>match Ir P t with
   | some (ag,n)=>(off+n≤cs.length∧(ag=true∨0<n),toV ag off n cs)
   | _=>(False, .undef)
 | _=>(False, .undef)
theorem Ee {P:Program} {w:World} {b o:Nat} {ty:TypeId} {v:Value} {d:TypeDesc} (hu:P.underlying ty=some d) (hd:d.isRow=false) (hc:w.cell? ⟨b,o,none⟩=some v):
 (Instr.loadAt ty (.pointer (some ⟨b,o,none⟩))).run P w= .ok v w:=by
 have hagg:(isAgg ty).run P w= .ok false w:=by
  unfold isAgg
  rw [Sem.run_bind,run_underlying hu w]
  cases d<;>simp_all
 simp [Instr.loadAt,Instr.sureAddr,loadVar,Sem.run_bind,hagg,load,Sem.run,hc]
theorem Qh {P:Program} {w:World} {G:Ay} {cs:List C} {b o off n:Nat} {ty:TypeId} {ag:Bool} (hr:Ak w G cs b o) (ht:Ir P ty=some (ag,n)) (hn:off+n≤cs.length) (h0:ag=true∨0<n):
 ∃ v,Ab w G (toV ag off n cs) v∧ ∀ w',Cv w w'→(Instr.loadAt ty (.pointer (some ⟨b,o+off,none⟩))).run P w'= .ok v w':=by
 obtain⟨d,i,hu,hd,hi,hsz⟩:=C8 ht
 obtain⟨vs,h1,h2⟩:=hr.list
 unfold toV
 cases hag:ag with
 | true=>
   refine⟨.agg ((vs.drop off).take n).toArray,?_,fun w' hw'=>?_⟩
   ·exact⟨_,rfl,by simpa using (h1.drop off).take n⟩
   ·refine run_loadAt_mid w' b (o+off) ty ((vs.drop off).take n) d ?_ hu (by rw [hd,hag]) ?_
    ·intro j v hv
     rw [List.getElem?_take]at hv
     split at hv
     ·rw [List.getElem?_drop]at hv
      have:=(hw'.range h2) _ v hv
      rw [show o+off+j=o+(off+j) by omega];exact this
     ·cases hv
    ·simp [hi,hsz, ←h1.length];omega
 | false=>
   have hn0:0<n:=by rcases h0 with h | h; · rw [hag]at h;cases h
                    ·exact h
   have hlt:off<cs.length:=by omega
   obtain⟨v,hv,hr'⟩:=h1.get off cs[off] (by simp [hlt])
   refine⟨v,?_,fun w' hw'=>?_⟩
   ·simpa [Ab,List.getD_eq_getElem?_getD,hlt] using hr'
   ·exact Ee hu (by rw [hd,hag]) (by simpa using (hw'.range h2) off v hv)
theorem JN {P:Program} {F:Fr} {st:St} {a:Act} {w:World} {G:Ay} (h:R F st a w G) {t:TypeId} {x:V} {u:Value} (hx:Ab w G x u) (hs:(C9 P t st x).1):
 ∃ v,Ab w G (C9 P t st x).2 v∧ ∀ w',Cv w w'→(Instr.loadAt t u).run P w'= .ok v w':=by
 unfold C9 at *
 split at hs
 ·rename_i id off
  split at hs
  ·rename_i ag n e ht he
   simp only [Ab,Ad]at hx
   obtain⟨b,hb,rfl⟩:=hx
   obtain⟨hm,hid⟩:=M8 he
   obtain⟨cur,T,_,_,hrow⟩:=(h.store e hm).row (du he) (by rw [hid];exact hb)
   have:=Qh (P:=P) hrow ht hs.1 hs.2
   simpa using this
  ·exact hs.elim
 ·rename_i cs off
  split at hs
  ·rename_i ag n ht
   simp only [Ab,Ad]at hx
   obtain⟨_,b,o,rfl,_,_,hrow⟩:=hx
   exact Qh (P:=P) hrow ht hs.1 hs.2
  ·exact hs.elim
 ·exact hs.elim
end Go.PL
namespace Go.PL
open Go Go.RowKit
def Qi (P:Program) (t:TypeId):Bool:=
 match P.underlying t with
 | some .bool =>true
 | _=>false
def Yw (k:IntKind) (a b:Int):Int:=k.wrap (BitVec.ofInt k.bits a&&& BitVec.ofInt k.bits b).toNat
def nf (k:IntKind) (a b:Int):Int:=k.wrap (BitVec.ofInt k.bits a||| BitVec.ofInt k.bits b).toNat
def L9 (k:IntKind) (a b:Int):Int:=k.wrap (BitVec.ofInt k.bits a ^^^ BitVec.ofInt k.bits b).toNat
def Vm (k:IntKind) (a b:Int):Int:=k.wrap (BitVec.ofInt k.bits a&&& ~~~ BitVec.ofInt k.bits b).toNat
def HL (op:BinOp) (k:IntKind) (a b:Int):Prop×C:=
 match op with
 | .add =>(True, .int k (k.wrap (a+b)))
 | .sub =>(True, .int k (k.wrap (a - b)))
 | .mul =>(True, .int k (k.wrap (a*b)))
 | .quo =>(b ≠ 0, .int k (k.wrap (a.tdiv b)))
 | .rem =>(b ≠ 0, .int k (a.tmod b))
 | .and =>(True, .int k (Yw k a b))
 | .or =>(True, .int k (nf k a b))
 | .xor =>(True, .int k (L9 k a b))
 | .andNot =>(True, .int k (Vm k a b))
 | .shl =>(0≤b, .int k (k.wrap (a*2 ^ (min b.toNat k.bits))))
 | .shr =>(0≤b, .int k (a.fdiv (2 ^ (min b.toNat k.bits))))
 | .eql =>(True, .bool (a==b))
 | .neq =>(True, .bool (a != b))
 | .lss =>(True, .bool (decide (a<b)))
 | .leq =>(True, .bool (decide (a≤b)))
 | .gtr =>(True, .bool (decide (b<a)))
 | .geq =>(True, .bool (decide (b≤a)))
def Is (op:BinOp) (a b:List UInt8):Prop×C:=
 match op with
 | .add =>(a.length+b.length≤maxLen, .str (a++b))
 | .eql =>(True, .bool (a==b))
 | .neq =>(True, .bool (a != b))
 | .lss =>(True, .bool (Op.bytesLess a b))
 | .leq =>(True, .bool (Op.bytesLess a b||a==b))
 | .gtr =>(True, .bool (!(Op.bytesLess a b||a==b)))
 | .geq =>(True, .bool (!Op.bytesLess a b))
 | _=>(False, .any)
def Iu (op:BinOp) (k k':IntKind):Prop:=
 match op with
 | .shl | .shr =>True
 | _=>k=k'
def HM (P:Program) (t:TypeId):Bool:=
 match P.underlying t with
 | some (.interface _)=>true
 | _=>false
def Iw (P:Program) (t:TypeId):Bool:=
 match P.underlying t with
 | some (.pointer _)=>true
 | _=>false
def JO (op:BinOp) (b:Bool) (s:Prop):Prop×V:=
 match op with
 | .eql =>(s, .c (.bool b))
 | .neq =>(s, .c (.bool !b))
 | _=>(False, .undef)
def Bt:Operand→Bool
 | .const _=>true
 | _=>false
def Pk (P:Program) (op:BinOp) (t:TypeId) (k:Bool):V→V→Prop×V
 | .c (.int k a), .c (.int k' b)=>(Iu op k k'∧(HL op k a b).1, .c (HL op k a b).2)
 | .c (.str a), .c (.str b)=>((Is op a b).1, .c (Is op a b).2)
 | .c (.bool a), .c (.bool b)=>match op with
   | .eql =>(Qi P t=true, .c (.bool (a==b)))
   | .neq =>(Qi P t=true, .c (.bool (a != b)))
   | _=>(False, .undef)
 | .c .niface, .c .niface =>JO op true (k=true∧HM P t=true)
 | .c .held, .c .niface =>JO op false (HM P t=true)
 | .c (.ptr _ _), .c .nilp =>JO op false (Iw P t=true)
 | .c (.iptr _ _), .c .nilp =>JO op false (Iw P t=true)
 | .c .nilp, .c .nilp =>JO op true (Iw P t=true)
 | _,_=>(False, .undef)
theorem Ma {P:Program} {t:TypeId} (h:HM P t=true): ∃ ms,P.underlying t=some (.interface ms):=by
 unfold HM at h;split at h
 ·rename_i ms hm;exact⟨ms,hm⟩
 ·cases h
theorem Lh {P:Program} {t:TypeId} (h:Iw P t=true): ∃ e,P.underlying t=some (.pointer e):=by
 unfold Iw at h;split at h
 ·rename_i ms hm;exact⟨ms,hm⟩
 ·cases h
theorem Of {P:Program} {t:TypeId} (h:Qi P t=true):P.underlying t=some .bool :=by
 unfold Qi at h;split at h<;>simp_all
theorem Fp {P:Program} {t:TypeId} (h:ED P t=true):P.underlying t=some .string :=by
 unfold ED at h;split at h<;>simp_all
theorem Yx (a:List UInt8):(⟨a.toArray⟩:ByteArray).size =a.length:=by simp [ByteArray.size]
def GB:C→Value
 | .int k n=> .int k n
 | .bool b=> .bool b
 | .str s=> .string ⟨s.toArray⟩
 | .nilp => .pointer none
 | .niface => .nilIface
 | .fn f=> .func (.func f) #[] #[]
 | _=>Go.undef
def C.flat:C→Bool
 | .int .. | .bool _ | .str _ | .nilp | .niface | .fn _=>true
 | _=>false
theorem AE {w:World} {G:Ay} {c:C} (hc:c.flat=true) {v:Value}:Ad w G c v↔v=GB c:=by
 cases c<;>simp_all [C.flat,Ad,GB]
theorem T9 {P:Program} {op:BinOp} {t:TypeId} {k k':IntKind} {x y:Int} {ox oy:Operand} (h1:Iu op k k') (h2:(HL op k x y).1) (w:World):
 (do eqGuard op t ox oy (.int k x) (.int k' y);binOp op t (.int k x) (.int k' y)).run P w= .ok (GB (HL op k x y).2) w∧(HL op k x y).2.flat =true:=by
 refine⟨?_,by cases op<;>rfl⟩
 cases op<;>simp only [Iu,HL]at h1 h2<;>(try subst h1)<;>simp only [HL,GB]<;>
  first
   | (simp [eqGuard,binOp,Op.intArith,Op.intDiv,Op.intBits,Op.intCmp,h2,Yw,nf,L9,Vm];done)
   | (have h3: ¬y<0:=by omega
      simp [eqGuard,binOp,Op.shift,h3])
theorem Ua {P:Program} {op:BinOp} {t:TypeId} {x y:List UInt8} {ox oy:Operand} (h2:(Is op x y).1) (w:World):
 (do eqGuard op t ox oy (.string ⟨x.toArray⟩) (.string ⟨y.toArray⟩);binOp op t (.string ⟨x.toArray⟩) (.string ⟨y.toArray⟩)).run P w= .ok (GB (Is op x y).2) w∧(Is op x y).2.flat =true:=by
 cases op<;>simp only [Is]at h2<;>refine⟨?_,rfl⟩<;>simp only [Is,GB]
 case add=>
  have h3: ¬((x.length+y.length:Nat):Int)>IntKind.i64.max:=by
   have:IntKind.i64.max=9223372036854775807:=by decide
   unfold maxLen at h2;omega
  simp only [eqGuard,binOp,Op.stringOp,Yx]
  rw [if_neg h3]
  have e:(⟨x.toArray⟩++⟨y.toArray⟩:ByteArray)=⟨(x++y).toArray⟩:=by
   apply ByteArray.ext
   simp
  simp [e]
 case neq=>simp [eqGuard,binOp,Op.stringOp,ByteArray.toList_eq,bne]
 all_goals simp [eqGuard,binOp,Op.stringOp,ByteArray.toList_eq]
theorem FW {P:Program} {op:BinOp} {t:TypeId} {u v:Value} {b:Bool} {s:Prop} {w:World} {G:Ay} {ox oy:Operand} (hs:(JO op b s).1) (hshape:(∀ k a,u ≠ .int k a)∧(∀ k a,u ≠ .float k a)∧(∀ k a c,u ≠ .complex k a c)∧(∀ a,u ≠ .string a))
 (hg:s→ ∀ w',(eqGuard op t ox oy u v).run P w'= .ok () w') (he:s→ ∀ w',(Op.equal t u v).run P w'= .ok b w'):
 ∃ r,Ab w G (JO op b s).2 r∧ ∀ w',(do eqGuard op t ox oy u v;binOp op t u v).run P w'= .ok r w':=by
 unfold JO at *
 obtain⟨h1,h2,h3,h4⟩:=hshape
 split at hs
 ·refine⟨.bool b,(AE rfl).2 rfl,fun w'=>?_⟩
  simp only [Sem.run_bind,hg hs w',Result.andThen_ok]
  cases u<;>simp_all [binOp]
 ·refine⟨.bool !b,(AE rfl).2 rfl,fun w'=>?_⟩
  simp only [Sem.run_bind,hg hs w',Result.andThen_ok]
  cases u<;>simp_all [binOp]
 ·exact hs.elim
theorem bz {P:Program} (d:Nat) {t u:TypeId} {x:Value} {ms:Array (String×TypeId)} (h:P.underlying t=some (.interface ms)) (w:World):(Op.equalIn (d+1) t (.iface u x) .nilIface).run P w= .ok false w:=by
 simp [Op.equalIn,run_underlying h]
theorem fV {P:Program} (d:Nat) {t:TypeId} {ms:Array (String×TypeId)} (h:P.underlying t=some (.interface ms)) (w:World):(Op.equalIn (d+1) t .nilIface .nilIface).run P w= .ok true w:=by
 simp [Op.equalIn,run_underlying h]
theorem fW {P:Program} (d:Nat) {t e:TypeId} {a:Addr} (h:P.underlying t=some (.pointer e)) (w:World):(Op.equalIn (d+1) t (.pointer (some a)) (.pointer none)).run P w= .ok false w:=by
 simp [Op.equalIn,run_underlying h]
theorem fX {P:Program} (d:Nat) {t e:TypeId} (h:P.underlying t=some (.pointer e)) (w:World):(Op.equalIn (d+1) t (.pointer none) (.pointer none)).run P w= .ok true w:=by
 simp [Op.equalIn,run_underlying h]
theorem Qj {P:Program} {t u:TypeId} {x:Value} {ms:Array (String×TypeId)} (h:P.underlying t=some (.interface ms)) (w:World):(Op.equal t (.iface u x) .nilIface).run P w= .ok false w:=bz 9999 h w
theorem Vn {P:Program} {t:TypeId} {ms:Array (String×TypeId)} (h:P.underlying t=some (.interface ms)) (w:World):(Op.equal t .nilIface .nilIface).run P w= .ok true w:=fV 9999 h w
theorem Mb {P:Program} {t e:TypeId} {a:Addr} (h:P.underlying t=some (.pointer e)) (w:World):(Op.equal t (.pointer (some a)) (.pointer none)).run P w= .ok false w:=fW 9999 h w
theorem Vo {P:Program} {t e:TypeId} (h:P.underlying t=some (.pointer e)) (w:World):(Op.equal t (.pointer none) (.pointer none)).run P w= .ok true w:=fX 9999 h w
theorem Yy {P:Program} {op:BinOp} {t:TypeId} {x y:V} {u v:Value} {w:World} {G:Ay} {ox oy:Operand} (hx:Ab w G x u) (hy:Ab w G y v) (hs:(Pk P op t (Bt ox||Bt oy) x y).1):
 ∃ r,Ab w G (Pk P op t (Bt ox||Bt oy) x y).2 r∧ ∀ w',(do eqGuard op t ox oy u v;binOp op t u v).run P w'= .ok r w':=by
 unfold Pk at *
 split at hs
 ·simp only [Ab,Ad]at hx hy
  subst hx hy
  exact⟨_,by simp only [Ab];exact(AE (T9 (P:=P) (t:=t) (ox:=ox) (oy:=oy) hs.1 hs.2 w).2).2 rfl,fun w'=>(T9 hs.1 hs.2 w').1⟩
 ·simp only [Ab,Ad]at hx hy
  subst hx hy
  exact⟨_,by simp only [Ab];exact(AE (Ua (P:=P) (t:=t) (ox:=ox) (oy:=oy) hs w).2).2 rfl,fun w'=>(Ua hs w').1⟩
 ·simp only [Ab,Ad]at hx hy
  subst hx hy
  split at hs
  ·exact⟨_,(AE rfl).2 rfl,fun w'=>by simp [eqGuard,run_eql_bool w' t _ _ (Of hs),GB]⟩
  ·exact⟨_,(AE rfl).2 rfl,fun w'=>by simp [eqGuard,run_neq_bool w' t _ _ (Of hs),GB,bne]⟩
  ·exact hs.elim
 ·simp only [Ab,Ad]at hx hy
  subst hx hy
  refine FW hs (by simp) (fun q w'=>?_) (fun q w'=>?_)
  ·have hk:=q.1
   cases ox<;>cases oy<;>simp_all [Bt,eqGuard]<;>(try (split<;>rfl))
  ·obtain⟨ms,hm⟩:=Ma q.2
   exact Vn hm w'
 ·simp only [Ab,Ad]at hx hy
  obtain⟨t',x',rfl⟩:=hx
  subst hy
  refine FW hs (by simp) (fun q w'=>?_) (fun q w'=>?_)
  ·simp [eqGuard]<;>(try (split<;>rfl))
  ·obtain⟨ms,hm⟩:=Ma q
   exact Qj hm w'
 ·simp only [Ab,Ad]at hx hy
  obtain⟨b,_,rfl⟩:=hx
  subst hy
  refine FW hs (by simp) (fun q w'=>?_) (fun q w'=>?_)
  ·simp [eqGuard]<;>(try (split<;>rfl))
  ·obtain⟨ms,hm⟩:=Lh q
   exact Mb hm w'
 ·simp only [Ab,Ad]at hx hy
  obtain⟨_,b,o,rfl,_⟩:=hx
  subst hy
  refine FW hs (by simp) (fun q w'=>?_) (fun q w'=>?_)
  ·simp [eqGuard]<;>(try (split<;>rfl))
  ·obtain⟨ms,hm⟩:=Lh q
   exact Mb hm w'
 ·simp only [Ab,Ad]at hx hy
  subst hx hy
  refine FW hs (by simp) (fun q w'=>?_) (fun q w'=>?_)
  ·simp [eqGuard]<;>(try (split<;>rfl))
  ·obtain⟨ms,hm⟩:=Lh q
   exact Vo hm w'
 ·exact hs.elim
end Go.PL
namespace Go.PL
open Go Go.RowKit
abbrev no:Prop×V:=(False, .undef)
def fU (op:UnOp):V→Prop×V
 | .c (.int k n)=>match op with
   | .neg =>(True, .c (.int k (k.wrap (0 - n))))
   | .xor =>(True, .c (.int k (L9 k (if k.signed then -1 else k.max) n)))
   | _=>no
 | .c (.bool b)=>match op with
   | .not =>(True, .c (.bool !b))
   | _=>no
 | _=>no
theorem Ub {P:Program} {op:UnOp} {x:V} {u:Value} {w:World} {G:Ay} (hx:Ab w G x u) (hs:(fU op x).1):
 ∃ r,Ab w G (fU op x).2 r∧ ∀ w',(Op.unary op u).run P w'= .ok r w':=by
 unfold fU at *
 split at hs
 ·simp only [Ab,Ad]at hx;subst hx
  split at hs
  ·exact⟨_,(AE rfl).2 rfl,fun w'=>by simp [Op.unary,Op.intArith,GB]⟩
  ·exact⟨_,(AE rfl).2 rfl,fun w'=>by simp [Op.unary,Op.intBits,GB,L9]⟩
  ·exact hs.elim
 ·simp only [Ab,Ad]at hx;subst hx
  split at hs
  ·exact⟨_,(AE rfl).2 rfl,fun w'=>by simp [Op.unary,GB]⟩
  ·exact hs.elim
 ·exact hs.elim
def WG (P:Program) (t:TypeId):Option IntKind:=
 match P.underlying t with
 | some (.int k)=>some k
 | _=>none
theorem Yz {P:Program} {t:TypeId} {k:IntKind} (h:WG P t=some k):P.underlying t=some (.int k):=by
 unfold WG at h;split at h<;>simp_all
def fY (P:Program) (t:TypeId):Bool:=(P.underlying t).isSome
def bytesOf:List C→Option (List UInt8)
 | []=>some []
 | .int .u8 n::cs=>match bytesOf cs with
   | some bs=>if 0≤n∧n<256 then some (UInt8.ofNat n.toNat::bs)else none
   | none=>none
 | _=>none
def Li:List C→List UInt8
 | []=>[]
 | .int _ n::cs=>UInt8.ofNat n.toNat::Li cs
 | _::cs=>Li cs
def Mc:List C→Prop
 | []=>True
 | .int .u8 n::cs=>(0≤n∧n<256)∧Mc cs
 | _=>False
theorem Qk: ∀ {cs:List C},Mc cs→bytesOf cs=some (Li cs)
 | [],_=>rfl
 | c::cs,h=>by
   unfold Mc at h
   split at h
   ·cases ‹_=([]:List C)›
   ·rename_i n cs' he
    injection he with h1 h2;subst h1 h2
    simp [bytesOf,Qk h.2,h.1,Li]
   ·exact h.elim
def JP (P:Program) (t:TypeId):Bool:=
 match P.underlying t with
 | some (.slice e)=>match P.underlying e with
   | some (.int .u8)=>true
   | _=>false
 | _=>false
def HN (P:Program) (src dst:TypeId) (st:St):V→Prop×V
 | .c (.int _ n)=>match WG P dst with
   | some k=>(fY P src=true, .c (.int k (k.wrap n)))
   | none=>no
 | .c (.str s)=>(ED P src=true∧ED P dst=true, .c (.str s))
 | .c (.osl id)=>match st.look id with
   | some e=>match e.row with
     | some (_,n,_)=>((JP P src=true∧ED P dst=true)∧n=1∧Mc e.cs, .c (.str (Li e.cs)))
     | _=>no
   | none=>no
 | _=>no
theorem M9 {P:Program} {t:TypeId} (h:JP P t=true): ∃ e,P.underlying t=some (.slice e)∧P.underlying e=some (.int .u8):=by
 unfold JP at h
 split at h
 ·rename_i e he;split at h
  ·rename_i h2;exact⟨e,he,h2⟩
  ·cases h
 ·cases h
theorem Md {w:World} {G:Ay}: ∀ {cs:List C} {bs:List UInt8} {vs:List Value},bytesOf cs=some bs→Ai w G cs vs→vs=bs.map (fun b=>Value.int .u8 b.toNat)
 | [],bs,vs,h,hr=>by
   simp [bytesOf]at h;subst h
   cases vs<;>simp_all [Ai]
 | c::cs,bs,vs,h,hr=>by
   cases vs with
   | nil=>simp [Ai]at hr
   | cons v vs=>
     simp only [Ai]at hr
     unfold bytesOf at h
     split at h
     ·cases ‹_=([]:List C)›
     ·rename_i n cs' he
      injection he with h1 h2;subst h1 h2
      split at h
      ·rename_i bs' hb
       split at h
       ·rename_i hn
        injection h with h;subst h
        have:=Md hb hr.2
        simp only [Ad]at hr
        rw [hr.1,this]
        simp only [List.map_cons,List.cons.injEq,and_true,Value.int.injEq,true_and]
        have:(UInt8.ofNat n.toNat).toNat =n.toNat:=by simp;omega
        rw [this];omega
       ·cases h
      ·cases h
     ·cases h
theorem WH {P:Program} {F:Fr} {st:St} {a:Act} {w:World} {G:Ay} (h:R F st a w G) {src dst:TypeId} {x:V} {u:Value} (hx:Ab w G x u) (hs:(HN P src dst st x).1):
 ∃ r,Ab w G (HN P src dst st x).2 r∧ ∀ w',Cv w w'→(convert src dst u).run P w'= .ok r w':=by
 unfold HN at *
 split at hs
 ·simp only [Ab,Ad]at hx;subst hx
  split at hs
  ·rename_i k hk
   unfold fY at hs
   cases hu:P.underlying src with
   | none=>simp [hu]at hs
   | some d=>exact⟨_,(AE rfl).2 rfl,fun w' _=>by simp [convert,run_underlying hu,run_underlying (Yz hk),Conv.intToInt,GB]⟩
  ·exact hs.elim
 ·simp only [Ab,Ad]at hx;subst hx
  exact⟨_,(AE rfl).2 rfl,fun w' _=>by simp [convert,run_underlying (Fp hs.1),run_underlying (Fp hs.2),GB]⟩
 ·rename_i id
  split at hs
  ·rename_i e he
   split at hs
   ·rename_i E n len hrow
    obtain⟨hs,rfl,hbs⟩:=hs
    have hb:=Qk hbs
    generalize Li e.cs=bs at *
    obtain⟨t,hs1,hs2⟩:=M9 hs.1
    have hd:=Fp hs.2
    obtain⟨hm,hid⟩:=A0 he
    have hE:=h.store e hm
    unfold AX at hE
    rw [hrow]at hE
    obtain⟨hl,v,hown,hcase⟩:=hE
    simp only [Ab,Ad]at hx
    rw [hid]at hown
    rw [hown]at hx
    obtain⟨hx,_⟩:=hx
    injection hx with hx;subst hx
    refine⟨.string ⟨bs.toArray⟩,(AE rfl).2 rfl,fun w' hw'=>?_⟩
    rcases hcase with ⟨p,rfl,h0,_⟩ | ⟨b,cap,cur,rfl,_,_,_,_,_,hr⟩
    ·have:e.cs=[]:=by cases hc:e.cs with
      | nil=>rfl
      | cons c cs=>rw [hc,h0]at hl;simp at hl
     rw [this]at hb;simp [bytesOf]at hb;subst hb
     cases p with
     | none=>exact run_convert_bytes_nil w' src t hs1 hs2 0 0 dst hd
     | some p=>exact run_convert_bytes_back w' src dst t p 0 [] hs1 hs2 hd (fun j hj=>by simp at hj)
    ·obtain⟨vs,h1,h2⟩:=hr.list
     have hv:=Md hb h1
     have hlen:bs.length=len:=by
      have:=h1.length;rw [hv]at this;simp at this;omega
     rw [←hlen]
     refine run_convert_bytes_back w' src dst t ⟨b,0,none⟩ cap bs hs1 hs2 hd ?_
     intro j hj
     rw [Addr.add_mid]
     simpa using hw'.range h2 j (.int .u8 bs[j].toNat) (by rw [hv];simp [hj])
   ·exact hs.elim
  ·exact hs.elim
 ·exact hs.elim
theorem WI {P:Program} {t:TypeId} {f o n:Nat} {ag:Bool} (h:dt P t f=some (o,ag,n)):
 ∃ fs x,P.underlying t=some (.struct fs)∧fs[f]? =some x∧x.offset=o∧Ir P x.type=some (ag,n):=by
 unfold dt at h
 split at h
 ·rename_i fs h1
  split at h
  ·rename_i x h2
   split at h
   ·rename_i ag' n' h3
    simp only [Option.some.injEq,Prod.mk.injEq]at h
    obtain⟨rfl,rfl,rfl⟩:=h
    exact⟨fs,x,h1,h2,rfl,h3⟩
   ·cases h
  ·cases h
 ·cases h
def BJ (P:Program) (s:TypeId) (f:Nat):V→Prop×V
 | .c (.ptr id off)=>match dt P s f with
   | some (o,_,n)=>(0<n, .c (.ptr id (off+o)))
   | none=>no
 | .c (.iptr cs off)=>match dt P s f with
   | some (o,_,n)=>(0<n, .c (.iptr cs (off+o)))
   | none=>no
 | _=>no
theorem run_fieldAt' {P:Program} {s:TypeId} {f o n:Nat} {ag:Bool} (h:dt P s f=some (o,ag,n)) (hn:0<n) (b off:Nat) (w:World):
 (Instr.fieldAt s (.pointer (some ⟨b,off,none⟩)) f).run P w= .ok (.pointer (some ⟨b,off+o,none⟩)) w:=by
 obtain⟨fs,x,h1,h2,h3,h4⟩:=WI h
 obtain⟨d,i,hu,_,hi,hsz⟩:=C8 h4
 simp only [Instr.fieldAt,Sem.run_bind,run_underlying h1,Result.andThen_ok,h2,Instr.sureAddr,Sem.run_pure,fieldPlace,sizeOf,typeInfo]
 have: ¬i.size=0:=by omega
 simp [program,Sem.run,hi,this,h3,Addr.add_mid]
theorem Ix {P:Program} {s:TypeId} {f:Nat} {x:V} {u:Value} {w:World} {G:Ay} (hx:Ab w G x u) (hs:(BJ P s f x).1):
 ∃ r,Ab w G (BJ P s f x).2 r∧ ∀ w',(Instr.fieldAt s u f).run P w'= .ok r w':=by
 unfold BJ at *
 split at hs
 ·split at hs
  ·rename_i o ag n hf
   simp only [Ab,Ad]at hx ⊢
   obtain⟨b,hb,rfl⟩:=hx
   exact⟨_,⟨b,hb,rfl⟩,fun w'=>run_fieldAt' hf hs b _ w'⟩
  ·exact hs.elim
 ·split at hs
  ·rename_i o ag n hf
   simp only [Ab,Ad]at hx ⊢
   obtain⟨hp,b,o',rfl,h1,h2,h3⟩:=hx
   exact⟨_,⟨hp,b,o',rfl,h1,h2,h3⟩,fun w'=>by rw [run_fieldAt' hf hs b _ w',Nat.add_assoc]⟩
  ·exact hs.elim
 ·exact hs.elim
theorem run_part' {P:Program} {t:TypeId} {ag:Bool} {n:Nat} (ht:Ir P t=some (ag,n)) {w:World} {G:Ay} {cs:List C} {arr:Array Value} (h:Ai w G cs arr.toList) {off:Nat} (hb:off+n≤cs.length) (h0:ag=true∨0<n):
 ∃ r,Ab w G (toV ag off n cs) r∧ ∀ w',(part t arr off).run P w'= .ok r w':=by
 obtain⟨d,i,hu,hd,hi,hsz⟩:=C8 ht
 have hagg: ∀ w',(isAgg t).run P w'= .ok ag w':=by
  intro w'
  unfold isAgg
  rw [Sem.run_bind,run_underlying hu w']
  cases d<;>simp_all
 have hlen:=h.length
 unfold toV
 cases hag:ag with
 | true=>
   refine⟨.agg (arr.extract off (off+n)),⟨_,rfl,?_⟩,fun w'=>?_⟩
   ·have:=(h.drop off).take n
    simpa [Array.toList_extract,List.extract_eq_take_drop] using this
   ·simp [part,Sem.run_bind,hagg,hag,sizeOf,typeInfo,program,Sem.run,hi,hsz]
 | false=>
   have hn0:0<n:=by rcases h0 with h' | h'; · rw [hag]at h';cases h'
                    ·exact h'
   have hlt:off<cs.length:=by omega
   obtain⟨v,hv,hr⟩:=h.get off cs[off] (by simp [hlt])
   refine⟨v,by simpa [Ab,List.getD_eq_getElem?_getD,hlt] using hr,fun w'=>?_⟩
   have hv':arr[off]? =some v:=by simpa using hv
   simp [part,Sem.run_bind,hagg,hag,hv']
def GW (P:Program) (t:TypeId) (f:Nat):V→Prop×V
 | .agg cs=>match dt P t f with
   | some (o,ag,n)=>(o+n≤cs.length∧(ag=true∨0<n),toV ag o n cs)
   | none=>no
 | _=>no
theorem Vp {P:Program} {t:TypeId} {f:Nat} {x:V} {u:Value} {w:World} {G:Ay} (hx:Ab w G x u) (hs:(GW P t f x).1):
 ∃ r,Ab w G (GW P t f x).2 r∧ ∀ w',(Instr.field t u f).run P w'= .ok r w':=by
 unfold GW at *
 split at hs
 ·split at hs
  ·rename_i o ag n hf
   simp only [Ab]at hx
   obtain⟨arr,rfl,hr⟩:=hx
   obtain⟨fs,y,h1,h2,h3,h4⟩:=WI hf
   obtain⟨r,q1,q2⟩:=run_part' h4 hr hs.1 hs.2
   exact⟨r,q1,fun w'=>by simp [Instr.field,Sem.run_bind,run_underlying h1,h2,asAgg,h3,q2]⟩
  ·exact hs.elim
 ·exact hs.elim
def BY (P:Program) (t:TypeId) (st:St) (x y:V):Prop×V:=
 match y with
 | .c (.int _ i)=>match x with
   | .c (.sl len cs)=>match CZ P t with
     | some (_,n)=>(0≤i∧i<len, .c (.iptr cs (i.toNat*n)))
     | none=>no
   | .c (.osl id)=>match CZ P t,st.lookR id with
     | some (_,n),some e=>match e.row with
       | some (_,_,len)=>(0≤i∧i<len, .c (.ptr id (i.toNat*n)))
       | none=>no
     | _,_=>no
   | .c (.bsl id off len)=>match CZ P t with
     | some (_,n)=>(0≤i∧i<len, .c (.ptr id (off+i.toNat*n)))
     | none=>no
   | .c (.ptr id off)=>match FV P t with
     | some (k,_,n)=>(0≤i∧i<k, .c (.ptr id (off+i.toNat*n)))
     | none=>no
   | .c (.iptr cs off)=>match FV P t with
     | some (k,_,n)=>(0≤i∧i<k, .c (.iptr cs (off+i.toNat*n)))
     | none=>no
   | _=>no
 | _=>no
theorem Dq {P:Program} {t e:TypeId} {n:Nat} (h:CZ P t=some (e,n)) (b o len cap:Nat) (k:IntKind) (i:Int) (h0:0≤i) (h1:i<len) (w:World):
 (Instr.indexAt t (.slice (some ⟨b,o,none⟩) len cap) (.int k i)).run P w= .ok (.pointer (some ⟨b,o+i.toNat*n,none⟩)) w:=by
 obtain⟨hu,inf,hi,hsz⟩:=Dp h
 simp [Instr.indexAt,asIntOf,Sem.run_bind,run_underlying hu,h0,h1,sizeOf,typeInfo,program,Sem.run,hi,hsz,Addr.add_mid]
theorem JQ {P:Program} {t e:TypeId} {m n:Nat} (h:FV P t=some (m,e,n)) (b o:Nat) (k:IntKind) (i:Int) (h0:0≤i) (h1:i<m) (w:World):
 (Instr.indexAt t (.pointer (some ⟨b,o,none⟩)) (.int k i)).run P w= .ok (.pointer (some ⟨b,o+i.toNat*n,none⟩)) w:=by
 obtain⟨hu,inf,hi,hsz⟩:=I3 h
 simp [Instr.indexAt,asIntOf,Sem.run_bind,run_underlying hu,h0,h1,sizeOf,typeInfo,program,Sem.run,hi,hsz,Addr.add_mid,Instr.sureAddr]
theorem Iy {P:Program} {F:Fr} {st:St} {a:Act} {w:World} {G:Ay} (h:R F st a w G) {t:TypeId} {x y:V} {u v:Value} (hx:Ab w G x u) (hy:Ab w G y v) (hs:(BY P t st x y).1):
 ∃ r,Ab w G (BY P t st x y).2 r∧ ∀ w',(Instr.indexAt t u v).run P w'= .ok r w':=by
 unfold BY at *
 split at hs
 ·rename_i k i
  simp only [Ab,Ad]at hy;subst hy
  split at hs
  ·split at hs
   ·rename_i len cs e n hse
    simp only [Ab,Ad]at hx ⊢
    obtain⟨hp,ad,cap,rfl,_,_,_,h0 | ⟨b,o,rfl,h1,h2,h3⟩⟩:=hx
    ·omega
    ·exact⟨_,⟨hp,b,o,rfl,h1,h2,h3⟩,fun w'=>Dq hse b o _ _ k i hs.1 hs.2 w'⟩
   ·exact hs.elim
  ·rename_i id
   split at hs
   ·rename_i e n en hse hlk
    split at hs
    ·rename_i E n' len hrow
     obtain⟨hm,hid⟩:=M8 hlk
     have hE:=h.store en hm
     unfold AX at hE
     rw [hrow]at hE
     obtain⟨hl,v,hown,hcase⟩:=hE
     simp only [Ab,Ad]at hx ⊢
     rw [hid]at hown
     rw [hown]at hx
     obtain⟨hx,_⟩:=hx
     injection hx with hx;subst hx
     rcases hcase with ⟨_,h0,_⟩ | ⟨b,cap,cur,rfl,hb,_⟩
     ·omega
     ·refine⟨_,⟨b,by rw [←hid];exact hb,rfl⟩,fun w'=>?_⟩
      simpa using Dq hse b 0 len cap k i hs.1 hs.2 w'
    ·exact hs.elim
   ·exact hs.elim
  ·rename_i id off len
   split at hs
   ·rename_i e n hse
    simp only [Ab,Ad]at hx ⊢
    obtain⟨b,cap,o,hb,rfl,hc,_,ho⟩:=hx
    have ho:o=off:=ho.resolve_left (fun q=>by have:=hs.1;have:=hs.2;omega)
    subst ho
    exact⟨_,⟨b,hb,rfl⟩,fun w'=>Dq hse b o len cap k i hs.1 hs.2 w'⟩
   ·exact hs.elim
  ·split at hs
   ·rename_i m e n hae
    simp only [Ab,Ad]at hx ⊢
    obtain⟨b,hb,rfl⟩:=hx
    exact⟨_,⟨b,hb,rfl⟩,fun w'=>JQ hae b _ k i hs.1 hs.2 w'⟩
   ·exact hs.elim
  ·split at hs
   ·rename_i m e n hae
    simp only [Ab,Ad]at hx ⊢
    obtain⟨hp,b,o,rfl,h1,h2,h3⟩:=hx
    exact⟨_,⟨hp,b,o,rfl,h1,h2,h3⟩,fun w'=>by rw [JQ hae b _ k i hs.1 hs.2 w',Nat.add_assoc]⟩
   ·exact hs.elim
  ·exact hs.elim
 ·exact hs.elim
def Gr (P:Program) (t:TypeId) (x y:V):Prop×V:=
 match y with
 | .c (.int _ i)=>match x with
   | .c (.str s)=>(ED P t=true∧0≤i∧i<s.length, .c (.int .u8 (s.getD i.toNat 0).toNat))
   | .agg cs=>match FV P t with
     | some (k,e,n)=>match Ir P e with
       | some (ag,_)=>(0≤i∧i<k∧i.toNat*n+n≤cs.length∧0<n,toV ag (i.toNat*n) n cs)
       | none=>no
     | none=>no
   | _=>no
 | _=>no
theorem Vq {P:Program} {t:TypeId} {x y:V} {u v:Value} {w:World} {G:Ay} (hx:Ab w G x u) (hy:Ab w G y v) (hs:(Gr P t x y).1):
 ∃ r,Ab w G (Gr P t x y).2 r∧ ∀ w',(Instr.index t u v).run P w'= .ok r w':=by
 unfold Gr at *
 split at hs
 ·rename_i k i
  simp only [Ab,Ad]at hy;subst hy
  split at hs
  ·simp only [Ab,Ad]at hx;subst hx
   obtain⟨h1,h2,h3⟩:=hs
   rename_i s
   refine⟨_,(AE rfl).2 rfl,fun w'=>?_⟩
   have hlt:i.toNat<s.length:=by omega
   have hg:(⟨s.toArray⟩:ByteArray)[i.toNat]? =some s[i.toNat]:=by
    rw [getElem?_pos _ _ (by simpa [ByteArray.size] using hlt)]
    rfl
   simp [Instr.index,asIntOf,Sem.run_bind,run_underlying (Fp h1),h2,hg,GB,List.getD_eq_getElem?_getD,hlt]
  ·split at hs
   ·rename_i m e n hae
    split at hs
    ·rename_i ag n' hts
     obtain⟨hu,inf,hi,hsz⟩:=I3 hae
     obtain⟨d,inf',hu',hd,hi',hsz'⟩:=C8 hts
     rw [hi]at hi';injection hi' with hi';subst hi'
     have hnn:n'=n:=by omega
     subst hnn
     simp only [Ab]at hx
     obtain⟨arr,rfl,hr⟩:=hx
     obtain⟨r,q1,q2⟩:=run_part' hts hr hs.2.2.1 (.inr hs.2.2.2)
     exact⟨r,q1,fun w'=>by simp [Instr.index,asIntOf,Sem.run_bind,run_underlying hu,hs.1,hs.2.1,sizeOf,typeInfo,program,Sem.run,hi,hsz,q2]⟩
    ·exact hs.elim
   ·exact hs.elim
  ·exact hs.elim
 ·exact hs.elim
end Go.PL
namespace Go.PL
open Go Go.RowKit
def S6 (len:Nat) (lo hi:Option V):Option (Int×Int):=
 match lo,hi with
 | none,none=>some (0,len)
 | some (.c (.int _ l)),none=>some (l,len)
 | none,some (.c (.int _ h))=>some (0,h)
 | some (.c (.int _ l)),some (.c (.int _ h))=>some (l,h)
 | _,_=>none
def Fq (P:Program) (t:TypeId) (x:V) (lo hi:Option V):Prop×V:=
 match x with
 | .c (.str s)=>match S6 s.length lo hi with
   | some (l,h)=>(ED P t=true∧0≤l∧l≤h∧h≤s.length, .c (.str ((s.drop l.toNat).take (h.toNat - l.toNat))))
   | none=>no
 | .c (.sl len cs)=>match CZ P t,S6 len lo hi with
   | some (_,n),some (l,h)=>(0≤l∧l≤h∧h≤len∧cs.length=len*n, .c (.sl (h.toNat - l.toNat) ((cs.drop (l.toNat*n)).take ((h.toNat - l.toNat)*n))))
   | _,_=>no
 | .c (.ptr id off)=>match FV P t,S6 (match FV P t with
  | some (k,_,_)=>k
  | none=>0) lo hi with
  | some (k,_,n),some (l,h)=>(0≤l∧l<k∧l≤h∧h≤k, .c (.bsl id (off+l.toNat*n) (h.toNat - l.toNat)))
  | _,_=>no
 | _=>no
def GX (w:World) (G:Ay):Option V→Option Value→Prop
 | none,none=>True
 | some x,some v=>Ab w G x v
 | _,_=>False
theorem run_sliceBound' {P:Program} (w:World) (k:IntKind) (i:Int) (y:Nat) (code:BoundsCode) (h0:0≤i) (h1:i≤y):
 (Instr.sliceBound (.int k i) y code).run P w= .ok i.toNat w:=by
 simp [Instr.sliceBound,asIntOf,h0,h1]
theorem Ql {P:Program} {w:World} {G:Ay} {len cap:Nat} {lo hi:Option V} {lv hv:Option Value} {l h:Int} (sl:Bool) (hb:S6 len lo hi=some (l,h)) (h1:GX w G lo lv) (h2:GX w G hi hv)
 (q1:0≤l) (q2:l≤h) (q3:h≤len) (q4:len≤cap): ∀ w',(Instr.sliceBounds sl len cap lv hv none).run P w'= .ok (l.toNat,h.toNat,cap) w':=by
 intro w'
 unfold S6 at hb
 split at hb
 ·simp only [Option.some.injEq,Prod.mk.injEq]at hb;obtain⟨rfl,rfl⟩:=hb
  cases lv<;>cases hv<;>simp only [GX]at h1 h2
  simp [Instr.sliceBounds]
 ·rename_i k1 l1
  simp only [Option.some.injEq,Prod.mk.injEq]at hb;obtain⟨rfl,rfl⟩:=hb
  cases lv<;>cases hv<;>simp only [GX,Ab,Ad]at h1 h2
  subst h1
  have e1:=fun code=>run_sliceBound' (P:=P) w' k1 l1 len code q1 (by omega)
  simp [Instr.sliceBounds,e1]
 ·rename_i k2 l2
  simp only [Option.some.injEq,Prod.mk.injEq]at hb;obtain⟨rfl,rfl⟩:=hb
  cases lv<;>cases hv<;>simp only [GX,Ab,Ad]at h1 h2
  subst h2
  have e2:=fun code=>run_sliceBound' (P:=P) w' k2 l2 cap code (by omega) (by omega)
  simp [Instr.sliceBounds,e2]
 ·rename_i k1 l1 k2 l2
  simp only [Option.some.injEq,Prod.mk.injEq]at hb;obtain⟨rfl,rfl⟩:=hb
  cases lv<;>cases hv<;>simp only [GX,Ab,Ad]at h1 h2
  subst h1 h2
  have e1:=fun code=>run_sliceBound' (P:=P) w' k1 l1 l2.toNat code q1 (by omega)
  have e2:=fun code=>run_sliceBound' (P:=P) w' k2 l2 cap code (by omega) (by omega)
  simp [Instr.sliceBounds,e1,e2]
 ·cases hb
theorem Vr {P:Program} {t:TypeId} {x:V} {lo hi:Option V} {u:Value} {lv hv:Option Value} {w:World} {G:Ay} (hx:Ab w G x u) (h1:GX w G lo lv) (h2:GX w G hi hv) (hs:(Fq P t x lo hi).1):
 ∃ r,Ab w G (Fq P t x lo hi).2 r∧ ∀ w',(Instr.sliceAt t u lv hv none).run P w'= .ok r w':=by
 unfold Fq at *
 split at hs
 ·rename_i s
  split at hs
  ·rename_i l h hb
   simp only [Ab,Ad]at hx;subst hx
   obtain⟨q0,q1,q2,q3⟩:=hs
   refine⟨_,(AE rfl).2 rfl,fun w'=>?_⟩
   have e:(⟨s.toArray⟩:ByteArray).extract l.toNat h.toNat=⟨((s.drop l.toNat).take (h.toNat - l.toNat)).toArray⟩:=by
    apply ByteArray.ext
    apply Array.ext'
    simp [ByteArray.data_extract,List.extract_eq_take_drop]
   have:=Ql (P:=P) (w:=w) (G:=G) false (len:=s.length) (cap:=s.length) hb h1 h2 q1 q2 q3 (Nat.le_refl _) w'
   simp [Instr.sliceAt,Instr.slice,Sem.run_bind,run_underlying (Fp q0),Yx,this,GB,e]
  ·exact hs.elim
 ·rename_i len cs
  split at hs
  ·rename_i e n l h hse hb
   obtain⟨q1,q2,q3,q4⟩:=hs
   obtain⟨hu,inf,hi',hsz⟩:=Dp hse
   simp only [Ab,Ad]at hx ⊢
   obtain⟨hp,ad,cap,rfl,c1,c2,c3,c4⟩:=hx
   have hr:=fun w'=>Ql (P:=P) (w:=w) (G:=G) true (len:=len) (cap:=cap) hb h1 h2 q1 q2 q3 c1 w'
   refine⟨.slice (if cap=l.toNat then ad else ad.map (·.add (l.toNat*n))) (h.toNat - l.toNat) (cap - l.toNat),⟨IZ _ (I1 _ hp),_,_,rfl,by omega,by omega,?_,?_⟩,fun w'=>?_⟩
   ·intro h0;rw [h0];simp
   ·by_cases hz:h.toNat - l.toNat=0
    ·exact .inl hz
    ·right
     rcases c4 with c4 | ⟨b,o,rfl,k1,k2,k3⟩
     ·omega
     ·have hne: ¬cap=l.toNat:=by omega
      refine⟨b,o+l.toNat*n,?_,k1,k2,?_⟩
      ·rw [if_neg hne];simp [Addr.add_mid]
      ·exact(k3.drop (l.toNat*n)).take _
   ·simp [Instr.sliceAt,Instr.slice,Sem.run_bind,run_underlying hu,hr,sizeOf,typeInfo,program,Sem.run,hi',hsz]
  ·exact hs.elim
 ·rename_i id off
  split at hs
  ·rename_i k e n l h hae hb
   obtain⟨q1,q2,q3,q4⟩:=hs
   obtain⟨hu,inf,hi',hsz⟩:=I3 hae
   simp only [hae]at hb
   simp only [Ab,Ad]at hx ⊢
   obtain⟨b,hb1,rfl⟩:=hx
   have hr:=fun sl w'=>Ql (P:=P) (w:=w) (G:=G) sl (len:=k) (cap:=k) hb h1 h2 q1 q3 q4 (Nat.le_refl _) w'
   have hne: ¬k=l.toNat:=by omega
   refine⟨.slice (some (if k=l.toNat then⟨b,off,none⟩else(⟨b,off,none⟩:Addr).add (l.toNat*n))) (h.toNat - l.toNat) (k - l.toNat),⟨b,k - l.toNat,off+l.toNat*n,hb1,?_,by omega,Nat.le_refl _, .inr rfl⟩,fun w'=>?_⟩
   ·rw [if_neg hne,Addr.add_mid]
   ·simp [Instr.sliceAt,Instr.sureAddr,Sem.run_bind,run_underlying hu,hr,sizeOf,typeInfo,program,Sem.run,hi',hsz]
  ·exact hs.elim
 ·exact hs.elim
def DU (P:Program) (t:TypeId):Bool:=
 match P.underlying t with
 | some (.slice _)=>true
 | _=>false
def Lj (P:Program) (t:TypeId) (st:St) (x:V):Prop×V:=
 match x with
 | .c (.str s)=>(ED P t=true, .c (.int .i64 s.length))
 | .c (.sl len _)=>(DU P t=true, .c (.int .i64 len))
 | .c (.osl id)=>match st.lookR id with
   | some e=>match e.row with
     | some (_,_,len)=>(DU P t=true, .c (.int .i64 len))
     | none=>no
   | none=>no
 | .c (.bsl _ _ len)=>(DU P t=true, .c (.int .i64 len))
 | .c (.rsl _ _ _ len)=>(DU P t=true, .c (.int .i64 len))
 | _=>match FV P t with
   | some (k,_,_)=>(True, .c (.int .i64 k))
   | none=>no
theorem DW {P:Program} {t:TypeId} (h:DU P t=true): ∃ e,P.underlying t=some (.slice e):=by
 unfold DU at h
 split at h
 ·rename_i e he;exact⟨e,he⟩
 ·cases h
theorem bA {F:Fr} {st:St} {a:Act} {w:World} {G:Ay} (h:R F st a w G) {id:Ah} {e:As} (he:st.lookR id=some e) {E n len:Nat} (hrow:e.row=some (E,n,len)) {u:Value} (hx:Ad w G (.osl id) u):
 ∃ ad cap,u= .slice ad len cap:=by
 obtain⟨hm,hid⟩:=M8 he
 have hE:=h.store e hm
 unfold AX at hE
 rw [hrow]at hE
 obtain⟨hl,v,hown,hcase⟩:=hE
 simp only [Ad]at hx
 rw [hid]at hown
 rw [hown]at hx
 obtain⟨hx,_⟩:=hx
 injection hx with hx;subst hx
 rcases hcase with ⟨p,rfl,h0,_⟩ | ⟨b,cap,cur,rfl,_⟩
 ·exact⟨p,0,by rw [h0]⟩
 ·exact⟨_,cap,rfl⟩
theorem YA {P:Program} {F:Fr} {st:St} {a:Act} {w:World} {G:Ay} (h:R F st a w G) {t ty:TypeId} {x:V} {u:Value} (hx:Ab w G x u) (hs:(Lj P t st x).1):
 ∃ r,Ab w G (Lj P t st x).2 r∧ ∀ w',(Builtin.len_ #[t] ty #[u]).run P w'= .ok r w':=by
 unfold Lj at *
 split at hs
 ·simp only [Ab,Ad]at hx;subst hx
  exact⟨_,(AE rfl).2 rfl,fun w'=>by simp [Builtin.len_,Sem.run_bind,run_underlying (Fp hs),goInt,Yx,GB]⟩
 ·obtain⟨e,he⟩:=DW hs
  simp only [Ab,Ad]at hx
  obtain⟨_,ad,cap,rfl,_⟩:=hx
  exact⟨_,(AE rfl).2 rfl,fun w'=>by simp [Builtin.len_,Sem.run_bind,run_underlying he,goInt,GB]⟩
 ·split at hs
  ·rename_i e hlk
   split at hs
   ·rename_i E n len hrow
    obtain⟨el,he⟩:=DW hs
    obtain⟨ad,cap,rfl⟩:=bA h hlk hrow (by simpa [Ab] using hx)
    exact⟨_,(AE rfl).2 rfl,fun w'=>by simp [Builtin.len_,Sem.run_bind,run_underlying he,goInt,GB]⟩
   ·exact hs.elim
  ·exact hs.elim
 ·obtain⟨e,he⟩:=DW hs
  simp only [Ab,Ad]at hx
  obtain⟨b,cap,o,hb,rfl,hc,_⟩:=hx
  exact⟨_,(AE rfl).2 rfl,fun w'=>by simp [Builtin.len_,Sem.run_bind,run_underlying he,goInt,GB]⟩
 ·obtain⟨e,he⟩:=DW hs
  simp only [Ab,Ad]at hx
  obtain⟨_,_,_,_,_,_,rfl,_⟩:=hx
  exact⟨_,(AE rfl).2 rfl,fun w'=>by simp [Builtin.len_,Sem.run_bind,run_underlying he,goInt,GB]⟩
 ·split at hs
  ·rename_i k el n hae
   obtain⟨hu,_⟩:=I3 hae
   exact⟨_,(AE rfl).2 rfl,fun w'=>by simp [Builtin.len_,Sem.run_bind,run_underlying hu,goInt,GB]⟩
  ·exact hs.elim
def Gs:List V→Option (IntKind×Int×List Int)
 | [.c (.int k x)]=>some (k,x,[])
 | .c (.int k x)::vs=>match Gs vs with
   | some (_,y,ys)=>some (k,x,y::ys)
   | none=>none
 | _=>none
def YB (vs:List V):Prop×V:=
 match Gs vs with
 | some (k,x,ys)=>(True, .c (.int k (ys.foldl (fun a y=>if y<a then y else a) x)))
 | none=>no
def YC (vs:List V):Prop×V:=
 match Gs vs with
 | some (k,x,ys)=>(True, .c (.int k (ys.foldl (fun a y=>if a<y then y else a) x)))
 | none=>no
theorem Lk {w:World} {G:Ay}: ∀ {vs:List V} {us:List Value} {k:IntKind} {x:Int} {ys:List Int},Gs vs=some (k,x,ys)→Ap w G vs us→
 ∃ ks:List IntKind,us= .int k x::(ks.zip ys).map (fun p=>Value.int p.1 p.2)∧ks.length=ys.length
 | [],us,k,x,ys,h,_=>by simp [Gs]at h
 | [v],us,k,x,ys,h,hr=>by
   unfold Gs at h
   split at h
   ·rename_i k' x' he
    injection he with he _;subst he
    simp only [Option.some.injEq,Prod.mk.injEq]at h
    obtain⟨rfl,rfl,rfl⟩:=h
    simp only [Ap,Ab,Ad]at hr
    obtain⟨v,r,rfl,rfl,rfl⟩:=hr
    exact⟨[],by simp⟩
   ·rename_i k' x' vs' hne he
    injection he with _ he
    subst he
    split at h
    ·rename_i q;simp [Gs]at q
    ·cases h
   ·cases h
 | v::v2::vs,us,k,x,ys,h,hr=>by
   unfold Gs at h
   split at h
   ·rename_i he;injection he with _ he;cases he
   ·rename_i k' x' vs' hne he
    injection he with he1 he2
    subst he1 he2
    split at h
    ·rename_i k2 y ys' q
     simp only [Option.some.injEq,Prod.mk.injEq]at h
     obtain⟨rfl,rfl,rfl⟩:=h
     rw [Ap]at hr
     obtain⟨u,r,rfl,h1,h2⟩:=hr
     simp only [Ab,Ad]at h1;subst h1
     obtain⟨ks,e,hl⟩:=Lk q h2
     exact⟨k2::ks,by rw [e];simp,by simp [hl]⟩
    ·cases h
   ·cases h
theorem Me {P:Program} (w:World) (k:IntKind): ∀ (ks:List IntKind) (ys:List Int) (x:Int),ks.length=ys.length→
 (((ks.zip ys).map (fun p=>Value.int p.1 p.2)).foldlM Builtin.min2 (.int k x)).run P w= .ok (.int k (ys.foldl (fun a y=>if y<a then y else a) x)) w
 | [],[],x,_=>by simp
 | [],_::_,_,h=>by simp at h
 | _::_,[],_,h=>by simp at h
 | k'::ks,y::ys,x,h=>by
   simp only [List.zip_cons_cons,List.map_cons,List.foldlM_cons,List.foldl_cons,Sem.run_bind,Builtin.min2,Sem.run_pure,Result.andThen_ok]
   exact Me w k ks ys _ (by simpa using h)
theorem Mf {P:Program} (w:World) (k:IntKind): ∀ (ks:List IntKind) (ys:List Int) (x:Int),ks.length=ys.length→
 (((ks.zip ys).map (fun p=>Value.int p.1 p.2)).foldlM Builtin.max2 (.int k x)).run P w= .ok (.int k (ys.foldl (fun a y=>if a<y then y else a) x)) w
 | [],[],x,_=>by simp
 | [],_::_,_,h=>by simp at h
 | _::_,[],_,h=>by simp at h
 | k'::ks,y::ys,x,h=>by
   simp only [List.zip_cons_cons,List.map_cons,List.foldlM_cons,List.foldl_cons,Sem.run_bind,Builtin.max2,Sem.run_pure,Result.andThen_ok]
   exact Mf w k ks ys _ (by simpa using h)
theorem YD {P:Program} {vs:List V} {us:Array Value} {w:World} {G:Ay} {ts:Array TypeId} {ty:TypeId} (hx:Ap w G vs us.toList) (hs:(YB vs).1):
 ∃ r,Ab w G (YB vs).2 r∧ ∀ w',(Builtin.min_ ts ty us).run P w'= .ok r w':=by
 unfold YB at *
 split at hs
 ·rename_i k x ys h
  obtain⟨ks,e,hl⟩:=Lk h hx
  exact⟨_,(AE rfl).2 rfl,fun w'=>by simp only [Builtin.min_,e];exact Me w' k ks ys x hl⟩
 ·exact hs.elim
theorem YE {P:Program} {vs:List V} {us:Array Value} {w:World} {G:Ay} {ts:Array TypeId} {ty:TypeId} (hx:Ap w G vs us.toList) (hs:(YC vs).1):
 ∃ r,Ab w G (YC vs).2 r∧ ∀ w',(Builtin.max_ ts ty us).run P w'= .ok r w':=by
 unfold YC at *
 split at hs
 ·rename_i k x ys h
  obtain⟨ks,e,hl⟩:=Lk h hx
  exact⟨_,(AE rfl).2 rfl,fun w'=>by simp only [Builtin.max_,e];exact Mf w' k ks ys x hl⟩
 ·exact hs.elim
end Go.PL
namespace Go.PL
open Go Go.RowKit
def bnd (p:Prop×V) (f:V→Prop×V):Prop×V:=(p.1∧(f p.2).1,(f p.2).2)
def St.args (st:St) (g:Bool):List Operand→Prop×List V
 | []=>(True,[])
 | x::xs=>((st.arg g x).1∧(st.args g xs).1,(st.arg g x).2::(st.args g xs).2)
def Ll:V→Option (Bool×Bool)
 | .c (.bool q)=>some (true,q)
 | .g c (.c (.bool q))=>some (c,q)
 | _=>none
def Qm (p:Bool) (a b:V):Prop×V:=
 match Ll a,Ll b with
 | some (ca,q),some (cb,r)=>((p=true→ca=true)∧(p=false→cb=true), .c (.bool (if p then q else r)))
 | _,_=>no
def Na:V→Prop×V
 | .c (.ptr id off)=>(True, .c (.ptr id off))
 | .c (.iptr cs off)=>(True, .c (.iptr cs off))
 | .c (.fn f)=>(True, .c (.fn f))
 | .c (.clo f cs)=>(True, .c (.clo f cs))
 | .c (.bmv f cs)=>(True, .c (.bmv f cs))
 | _=>no
def YF (i:Nat):V→Prop×V
 | .tup vs=>(i<vs.length,vs.getD i .undef)
 | _=>no
def Cy (st:St) (g:Bool):Option Operand→Prop×Option V
 | none=>(True,none)
 | some x=>((st.arg g x).1,some (st.arg g x).2)
def Lm (P:Program) (st:St) (g:Bool) (b:Builtin) (xs:List Operand) (ts:List TypeId):Prop×V:=
 match b,xs,ts with
 | .len,[x],[t]=>bnd (st.arg g x) (Lj P t st)
 | .min,xs,_=>((st.args g xs).1∧(YB (st.args g xs).2).1,(YB (st.args g xs).2).2)
 | .max,xs,_=>((st.args g xs).1∧(YC (st.args g xs).2).1,(YC (st.args g xs).2).2)
 | _,_,_=>no
def rd (P:Program) (st:St) (g:Bool):Op→Prop×V
 | .move x=>st.arg g x
 | .assign x=>st.arg g x
 | .pick c a b=>bnd (st.arg g c) fun p=>match p with
   | .c (.bool q)=>Qm q (st.ev a) (st.ev b)
   | _=>no
 | .load t x=>bnd (st.arg g x) (C9 P t st)
 | .nilCheck x=>bnd (st.arg g x) Na
 | .binOp op t x y _=>bnd (st.arg g x) fun u=>bnd (st.arg g y) fun v=>Pk P op t (Bt x||Bt y) u v
 | .unOp op _ x=>bnd (st.arg g x) (fU op)
 | .convert src dst x=>bnd (st.arg g x) (HN P src dst st)
 | .slice t x lo hi none=>bnd (st.arg g x) fun u=>((Cy st g lo).1∧(Cy st g hi).1∧(Fq P t u (Cy st g lo).2 (Cy st g hi).2).1,(Fq P t u (Cy st g lo).2 (Cy st g hi).2).2)
 | .fieldAddr s x f=>bnd (st.arg g x) (BJ P s f)
 | .field t x f=>bnd (st.arg g x) (GW P t f)
 | .indexAddr t x i=>bnd (st.arg g x) fun u=>bnd (st.arg g i) fun v=>BY P t st u v
 | .index t x i=>bnd (st.arg g x) fun u=>bnd (st.arg g i) fun v=>Gr P t u v
 | .extract x i=>bnd (st.arg g x) (YF i)
 | .call c=>match c.callee with
   | .builtin b=>Lm P st g b c.args.toList c.argTypes.toList
   | _=>no
 | _=>no
theorem Qn {w:World} {G:Ay} {x:V} {v:Value} {c q:Bool} (h:Ll x=some (c,q)) (hr:Ab w G x v) (hc:c=true):v= .bool q:=by
 unfold Ll at h
 split at h
 ·simp only [Option.some.injEq,Prod.mk.injEq]at h;obtain⟨rfl,rfl⟩:=h;simpa [Ab,Ad] using hr
 ·simp only [Option.some.injEq,Prod.mk.injEq]at h;obtain⟨rfl,rfl⟩:=h
  simp only [Ab]at hr;rw [if_pos hc]at hr;simpa [Ad] using hr
 ·cases h
theorem R.args {F:Fr} {st:St} {a:Act} {w:World} {G:Ay} (h:R F st a w G) {g:Bool} (hg:g=true): ∀ {xs:List Operand},(st.args g xs).1→Ap w G (st.args g xs).2 (xs.map a.eval)
 | [],_=>by simp [St.args,Ap]
 | x::xs,hs=>by
   simp only [St.args]at hs ⊢
   simp only [Ap,List.map_cons]
   exact⟨_,_,rfl,h.arg hg hs.1,h.args hg hs.2⟩
theorem GM {w:World} {G:Ay}: ∀ {xs:List V} {vs:List Value},Ap w G xs vs→ ∀ i,i<xs.length→ ∃ v,vs[i]? =some v∧Ab w G (xs.getD i .undef) v
 | [],vs,h,i,hi=>by simp at hi
 | x::xs,vs,h,i,hi=>by
   simp only [Ap]at h
   obtain⟨v,r,rfl,h1,h2⟩:=h
   cases i with
   | zero=>exact⟨v,by simp,by simpa using h1⟩
   | succ i=>
     obtain⟨v',q1,q2⟩:=GM h2 i (by simpa using hi)
     exact⟨v',by simpa using q1,by simpa using q2⟩
theorem Qo {F:Fr} {st:St} {a:Act} {w:World} {G:Ay} (h:R F st a w G) {g:Bool} (hg:g=true) {x:Option Operand} (hs:(Cy st g x).1):GX w G (Cy st g x).2 (x.map a.eval):=by
 cases x with
 | none=>simp [Cy,GX]
 | some x=>simp only [Cy,Option.map,GX]at hs ⊢;exact h.arg hg hs
theorem WJ {P:Program} {F:Fr} {st:St} {a:Act} {w:World} {G:Ay} (h:R F st a w G) {g:Bool} (hg:g=true) {o:Oper} (hs:(rd P st g o.op).1):
 ∃ v,Ab w G (rd P st g o.op).2 v∧ ∀ w',Cv w w'→(execOp a.eval o).run P w'= .ok (.value v) w':=by
 cases ho:o.op<;>simp only [rd,ho,bnd]at hs ⊢ <;>try (exact hs.elim)
 case move x=>exact⟨_,h.arg hg hs,fun w' _=>by simp [execOp,ho]⟩
 case assign x=>exact⟨_,h.arg hg hs,fun w' _=>by simp [execOp,ho]⟩
 case pick c x y=>
  obtain⟨h1,h2⟩:=hs
  have hc:=h.arg hg h1
  split at h2
  ·rename_i q hq
   rw [hq]at hc
   simp only [Ab,Ad]at hc
   unfold Qm at h2 ⊢
   split at h2
   ·rename_i ca qa cb qb e1 e2
    cases q with
    | true=>
      have:=Qn e1 (h.ev x) (h2.1 rfl)
      exact⟨.bool qa,by simp [Ab,Ad],fun w' _=>by simp [execOp,ho,hc,asBool,this]⟩
    | false=>
      have:=Qn e2 (h.ev y) (h2.2 rfl)
      exact⟨.bool qb,by simp [Ab,Ad],fun w' _=>by simp [execOp,ho,hc,asBool,this]⟩
   ·exact h2.elim
  ·exact h2.elim
 case load t x=>
  obtain⟨v,q1,q2⟩:=JN (P:=P) h (h.arg hg hs.1) hs.2
  exact⟨v,q1,fun w' hw'=>by simp [execOp,ho,q2 w' hw']⟩
 case nilCheck x=>
  obtain⟨h1,h2⟩:=hs
  have hx:=h.arg hg h1
  unfold Na at h2 ⊢
  split at h2
  ·rename_i id off e
   rw [e]at hx
   simp only [Ab,Ad]at hx ⊢
   obtain⟨b,hb,hv⟩:=hx
   exact⟨_,⟨b,hb,rfl⟩,fun w' _=>by simp [execOp,ho,hv]⟩
  ·rename_i cs off e
   rw [e]at hx
   simp only [Ab,Ad]at hx ⊢
   obtain⟨hp,b,o',hv,k1⟩:=hx
   exact⟨_,⟨hp,b,o',rfl,k1⟩,fun w' _=>by simp [execOp,ho,hv]⟩
  ·rename_i f e
   rw [e]at hx
   simp only [Ab,Ad]at hx ⊢
   exact⟨_,rfl,fun w' _=>by simp [execOp,ho,hx]⟩
  ·rename_i f cs e
   rw [e]at hx
   simp only [Ab,Ad]at hx ⊢
   obtain⟨arr,hv,hr⟩:=hx
   exact⟨_,⟨arr,rfl,hr⟩,fun w' _=>by simp [execOp,ho,hv]⟩
  ·rename_i f cs e
   rw [e]at hx
   simp only [Ab,Ad]at hx ⊢
   obtain⟨arr,hv,hr⟩:=hx
   exact⟨_,⟨arr,rfl,hr⟩,fun w' _=>by simp [execOp,ho,hv]⟩
  ·exact h2.elim
 case binOp op t x y t'=>
  obtain⟨v,q1,q2⟩:=Yy (P:=P) (ox:=x) (oy:=y) (h.arg hg hs.1) (h.arg hg hs.2.1) hs.2.2
  refine⟨v,q1,fun w' hw'=>?_⟩
  have:=q2 w'
  simp only [execOp,ho,Sem.run_bind]at this ⊢
  rw [this];rfl
 case unOp op t x=>
  obtain⟨v,q1,q2⟩:=Ub (P:=P) (h.arg hg hs.1) hs.2
  exact⟨v,q1,fun w' hw'=>by simp [execOp,ho,q2 w']⟩
 case convert src dst x=>
  obtain⟨v,q1,q2⟩:=WH (P:=P) h (h.arg hg hs.1) hs.2
  exact⟨v,q1,fun w' hw'=>by simp [execOp,ho,q2 w' hw']⟩
 case slice t x lo hi mx=>
  cases mx with
  | some _=>exact hs.elim
  | none=>
    simp only [bnd]at hs ⊢
    obtain⟨v,q1,q2⟩:=Vr (P:=P) (h.arg hg hs.1) (Qo h hg hs.2.1) (Qo h hg hs.2.2.1) hs.2.2.2
    exact⟨v,q1,fun w' hw'=>by simp [execOp,ho,q2 w']⟩
 case fieldAddr s x f=>
  obtain⟨v,q1,q2⟩:=Ix (P:=P) (h.arg hg hs.1) hs.2
  exact⟨v,q1,fun w' hw'=>by simp [execOp,ho,q2 w']⟩
 case field s x f=>
  obtain⟨v,q1,q2⟩:=Vp (P:=P) (h.arg hg hs.1) hs.2
  exact⟨v,q1,fun w' hw'=>by simp [execOp,ho,q2 w']⟩
 case indexAddr t x i=>
  obtain⟨v,q1,q2⟩:=Iy (P:=P) h (h.arg hg hs.1) (h.arg hg hs.2.1) hs.2.2
  exact⟨v,q1,fun w' hw'=>by simp [execOp,ho,q2 w']⟩
 case index t x i=>
  obtain⟨v,q1,q2⟩:=Vq (P:=P) (h.arg hg hs.1) (h.arg hg hs.2.1) hs.2.2
  exact⟨v,q1,fun w' hw'=>by simp [execOp,ho,q2 w']⟩
 case extract x i=>
  obtain⟨h1,h2⟩:=hs
  have hx:=h.arg hg h1
  unfold YF at h2 ⊢
  split at h2
  ·rename_i vs e
   rw [e]at hx
   simp only [Ab]at hx
   obtain⟨arr,hv,hr⟩:=hx
   obtain⟨v,q1,q2⟩:=GM hr i h2
   have q1':arr[i]? =some v:=by simpa using q1
   exact⟨v,q2,fun w' _=>by simp [execOp,ho,hv,Instr.extract,q1']⟩
  ·exact h2.elim
 case call c=>
  split at hs
  ·rename_i b hcal
   unfold Lm at hs ⊢
   split at hs
   ·rename_i x t hxs hts
    have ea:c.args= #[x]:=by apply Array.ext';simpa using hxs
    have et:c.argTypes= #[t]:=by apply Array.ext';simpa using hts
    obtain⟨v,q1,q2⟩:=YA (P:=P) (ty:=o.type) h (h.arg hg hs.1) hs.2
    refine⟨v,q1,fun w' _=>?_⟩
    simp [execOp,ho,resolve,hcal,ea,et,invoke,builtin,q2 w']
   ·rename_i xs ts hxs
    obtain⟨v,q1,q2⟩:=YD (P:=P) (ts:=c.argTypes) (ty:=o.type) (us:=c.args.map a.eval) (by simpa using h.args hg hs.1) hs.2
    exact⟨v,q1,fun w' _=>by simp [execOp,ho,resolve,hcal,invoke,builtin,q2 w']⟩
   ·obtain⟨v,q1,q2⟩:=YE (P:=P) (ts:=c.argTypes) (ty:=o.type) (us:=c.args.map a.eval) (by simpa using h.args hg hs.1) hs.2
    exact⟨v,q1,fun w' _=>by simp [execOp,ho,resolve,hcal,invoke,builtin,q2 w']⟩
   ·exact hs.elim
  ·exact hs.elim
end Go.PL
namespace Go.PL
open Go Go.RowKit
def FX (id:Ah) (c:C):C:=if c.men id then .any else c
def D5 (id:Ah) (v:V):V:=if v.men id then .undef else v
def As.kill (id:Ah) (e:As):As:=match e with
 | ⟨i,r,cs,true⟩=>⟨i,r,cs,true⟩
 | ⟨i,r,cs,false⟩=>⟨i,r,cs.map (FX id),false⟩
theorem As.kill_id (id:Ah) (e:As):(e.kill id).id =e.id:=by obtain⟨i,r,cs,_ | _⟩:=e<;>rfl
theorem As.kill_row (id:Ah) (e:As):(e.kill id).row =e.row:=by obtain⟨i,r,cs,_ | _⟩:=e<;>rfl
def St.kill (st:St) (id:Ah):St:={tm:=st.tm.map (D5 id),so:=(st.so.filter (fun e=>e.id != id&& !(CJ id&&Ed e.id))).map (As.kill id),gh:=st.gh.map (D5 id),pre:=st.pre}
def Og (e:As) (l:List As):List As:=match CJ e.id||Ed e.id with
 | true=>l
 | false=>e::l
def St.new (st:St) (e:As):St:={tm:=(st.kill e.id).tm,so:=Og (e.kill e.id) (st.kill e.id).so,gh:=(st.kill e.id).gh,pre:=st.pre}
theorem GN {e x:As} {l:List As} (h:x∈Og e l):x=e∧CJ e.id=false∧Ed e.id=false∨x∈l:=by
 unfold Og at h
 split at h
 ·exact .inr h
 ·rename_i hq
  rcases List.mem_cons.1 h with h | h
  ·exact .inl ⟨h,by simpa using hq⟩
  ·exact .inr h
def BS (F:Fr) (G:Ay) (id:Ah) (b:Option Nat) (v:Option Value):Ay where
 blk:=fun i=>if i=id then b else G.blk i
 own:=fun i=>if i=id then v else G.own i
 wr:=fun x=>F.av x∨ ∃ i,(if i=id then b else G.blk i)=some x
theorem bB (id:Ah) (c:C):(FX id c).men id=false:=by
 unfold FX;split
 ·simp [C.men]
 ·simp_all
theorem Nb (id:Ah) (v:V):(D5 id v).men id=false:=by
 unfold D5;split
 ·simp [V.men]
 ·simp_all
theorem Nc (id:Ah): ∀ cs:List C,BE id (cs.map (FX id))=false
 | []=>by simp [BE]
 | c::cs=>by simp [BE,bB,Nc id cs]
theorem bC {w:World} {G:Ay} {id:Ah} {c:C} {v:Value} (h:Ad w G c v):Ad w G (FX id c) v:=by
 unfold FX;split
 ·simp only [Ad];exact h.one
 ·exact h
theorem Nd {w:World} {G:Ay} {id:Ah}: ∀ {cs:List C} {vs:List Value},Ai w G cs vs→Ai w G (cs.map (FX id)) vs
 | [],[],_=>by simp [Ai]
 | [],_::_,h=>by simp [Ai]at h
 | _::_,[],h=>by simp [Ai]at h
 | c::cs,v::vs,h=>by
   simp only [Ai]at h
   simp only [List.map_cons,Ai]
   exact⟨bC h.1,Nd h.2⟩
theorem Oh {w:World} {G:Ay} {id:Ah} {cs:List C} {b o:Nat} (h:Ak w G cs b o):Ak w G (cs.map (FX id)) b o:=by
 obtain⟨vs,h1,h2⟩:=h.list
 exact Ak.of_list (Nd h1) h2
theorem Nf {w:World} {G:Ay} {id:Ah} {x:V} {v:Value} (h:Ab w G x v):Ab w G (D5 id x) v:=by
 unfold D5;split
 ·simp only [Ab]
 ·exact h
theorem Ln {w:World} {G:Ay} {id:Ah}: ∀ {xs:List V} {vs:List Value},Ap w G xs vs→Ap w G (xs.map (D5 id)) vs
 | [],_,h=>by simpa [Ap] using h
 | x::xs,vs,h=>by
   simp only [Ap]at h
   obtain⟨v,r,e,h1,h2⟩:=h
   simp only [List.map_cons,Ap]
   exact⟨v,r,e,Nf h1,Ln h2⟩
theorem Lo (id:Ah): ∀ xs:List V,Ig id (xs.map (D5 id))=false
 | []=>by simp [Ig]
 | x::xs=>by simp [Ig,Nb,Lo id xs]
theorem Uc {w:World} {G:Ay} {id:Ah} {e:As} (h:AX w G e):AX w G (e.kill id):=by
 obtain⟨i,r,cs,pu⟩:=e
 cases pu with
 | true=>exact h
 | false=>
 unfold AX at *
 simp only [As.kill]
 simp only at h
 split at h
 ·obtain⟨b,h1,h2⟩:=h
  refine⟨b,h1,?_⟩
  rcases h2 with ⟨kv,es,rfl,h2⟩ | ⟨T,cur,h2,h3,h4⟩
  ·exact .inl ⟨kv,es,by simp [FX,C.men],h2⟩
  ·exact .inr ⟨T,cur,h2,by simpa using h3,Oh h4⟩
 ·obtain⟨hl,v,h1,h2⟩:=h
  refine⟨by simpa using hl,v,h1,?_⟩
  rcases h2 with h2 | ⟨b,cap,cur,e1,e2,e3,e4,e5,e6,e7⟩
  ·exact .inl h2
  ·exact .inr ⟨b,cap,cur,e1,e2,e3,e4,e5,e6,Oh e7⟩
theorem Kt {id:Ah} {e:As} (h:e.pu=true→Ao e.cs=true):(e.kill id).pu =true→Ao (e.kill id).cs =true:=by
 obtain⟨i,r,cs,pu⟩:=e
 cases pu with
 | true=>exact h
 | false=>intro hq;cases hq
theorem WK {id:Ah} {e:As} (h:e.pu=true→Ao e.cs=true):BE id (e.kill id).cs =false:=by
 obtain⟨i,r,cs,pu⟩:=e
 cases pu with
 | true=>exact AG id cs (h rfl)
 | false=>exact Nc id cs
theorem Cj {w w':World} {G G':Ay} (hk:B3 G G' w w') {e:As} (ha:HK (fun id=>BE id e.cs=true) G G') (hid:G'.blk e.id=G.blk e.id∧G'.own e.id=G.own e.id)
 (hb: ∀ b,G.blk e.id=some b→w'.heap[b]? =w.heap[b]?) (h:AX w G e):AX w' G' e:=by
 unfold AX at *
 split at h
 ·obtain⟨b,h1,h2⟩:=h
  refine⟨b,by rw [hid.1];exact h1,?_⟩
  rcases h2 with ⟨kv,es,h2,h3,h4⟩ | ⟨T,cur,h2,h3,h4⟩
  ·exact .inl ⟨kv,es,h2,by rw [hb b h1];exact h3,h4⟩
  ·exact .inr ⟨T,cur,by rw [hb b h1];exact h2,h3,Ak.mono hk _ _ _ ha (fun o=>cell?_of_block' (hb b h1) o) h4⟩
 ·obtain⟨hl,v,h1,h2⟩:=h
  refine⟨hl,v,by rw [hid.2];exact h1,?_⟩
  rcases h2 with ⟨p,e1,e2,e3⟩ | ⟨b,cap,cur,e1,e2,e3,e4,e5,e6,e7⟩
  ·exact .inl ⟨p,e1,e2,by rw [hid.1];exact e3⟩
  ·exact .inr ⟨b,cap,cur,e1,by rw [hid.1];exact e2,by rw [hb b e2];exact e3,e4,e5,e6,Ak.mono hk _ _ _ ha (fun o=>cell?_of_block' (hb b e2) o) e7⟩
theorem Em.mono {w w':World} {G G':Ay} (hk:B3 G G' w w') {e:As} (hid:G'.blk e.id=G.blk e.id∧G'.own e.id=G.own e.id) (hmk: ∀ k,G'.blk (BH k e.id)=G.blk (BH k e.id)∧G'.own (BH k e.id)=G.own (BH k e.id))
 (hb: ∀ b,G.blk e.id=some b→w'.heap[b]? =w.heap[b]?) (hbm: ∀ k b,G.blk (BH k e.id)=some b→w'.heap[b]? =w.heap[b]?) (h:Em w G e):Em w' G' e:=fun k E n len cs q=>by
 obtain⟨h1,h2,b,v,h3,h4,h5⟩:=h k E n len cs q
 refine⟨h1,Cj hk (e:=⟨BH k e.id,some (E,n,len),cs,true⟩) (fun i hi=>absurd (show BE i cs=true from hi) (by rw [AG i cs h1];simp)) (hmk k) (hbm k) h2,b,v,by rw [hid.1];exact h3,?_,by rw [(hmk k).2];exact h5⟩
 rw [cell?_of_block' (hb b h3)];exact h4
theorem Bi.mono {w w':World} {G G':Ay} (hk:B3 G G' w w') {e:As} (hid:G'.blk e.id=G.blk e.id∧G'.own e.id=G.own e.id) (hmk:Ed e.id=true→ ∀ k,G'.blk (BH k e.id)=G.blk (BH k e.id)∧G'.own (BH k e.id)=G.own (BH k e.id))
 (hb: ∀ b,G.blk e.id=some b→w'.heap[b]? =w.heap[b]?) (hbm:Ed e.id=true→ ∀ k b,G.blk (BH k e.id)=some b→w'.heap[b]? =w.heap[b]?) (h:Bi w G e):Bi w' G' e:=
 ⟨h.1,fun hd=>⟨(h.2 hd).1,(h.2 hd).2.1,(h.2 hd).2.2.mono hk hid (hmk hd) hb (hbm hd)⟩⟩
theorem Bi.kill {w:World} {G:Ay} {e:As} {id:Ah} (h:Bi w G e):Bi w G (e.kill id):=by
 obtain⟨i,r,cs,pu⟩:=e
 cases pu with
 | true=>exact h
 | false=>exact⟨h.1,fun hd=>absurd (h.2 hd).1 (by simp)⟩
theorem Bi.triv {w:World} {G:Ay} {e:As} (h1:CJ e.id=false) (h2:Ed e.id=false):Bi w G e:=⟨h1,fun hd=>by rw [h2]at hd;cases hd⟩
theorem EE {st:St} {f:V→V} (hf:f .undef = .undef) (i:Nat):(st.tm.map f).getD i .undef =f (st.tm.getD i .undef):=by
 simp only [List.getD_eq_getElem?_getD,List.getElem?_map]
 cases st.tm[i]? <;>simp [hf]
structure JR (w w':World):Prop where
 os:w'.os=w.os
 tape:w'.tape=w.tape
 output:w'.output=w.output
theorem R.rename {F:Fr} {st:St} {a:Act} {w w':World} {G:Ay} (h:R F st a w G) (id:Ah) (nb:Option Nat) (nv:Option Value)
 (ho:JR w w') (hs:w.heap.size≤w'.heap.size)
 (hext: ∀ b,b<F.w0.heap.size→ ¬F.old b→w'.heap[b]? =w.heap[b]?)
 (hn: ∀ b,nb=some b→(w.heap.size≤b∨G.blk id=some b)∧b<w'.heap.size) (st':St)
 (htm:st'.tm.length=st.tm.length) (hsl: ∀ i,Ab w' (BS F G id nb nv) (st'.tm.getD i .undef) (a.tmps.getD i Go.undef))
 (hgh:Ap w' (BS F G id nb nv) st'.gh F.gv) (hpu: ∀ e∈st'.so,e.pu=true→Ao e.cs=true) (hso: ∀ e∈st'.so,AX w' (BS F G id nb nv) e) (hdp: ∀ e∈st'.so,Bi w' (BS F G id nb nv) e) (hnd:(st'.so.map (·.id)).Nodup):R F st' a w' (BS F G id nb nv) where
 dfr:=h.dfr
 size:=by rw [htm];exact h.size
 slots:=hsl
 ghosts:=hgh
 pures:=hpu
 store:=hso
 deep:=hdp
 nodup:=hnd
 inj:=by
  intro i j b hi hj
  simp only [BS]at hi hj
  split at hi<;>split at hj
  ·simp_all
  ·rename_i q1 q2
   rcases (hn b hi).1 with q | q
   ·exact absurd (h.lt j b hj) (by omega)
   ·exact absurd (h.inj j id b hj q) q2
  ·rename_i q1 q2
   rcases (hn b hj).1 with q | q
   ·exact absurd (h.lt i b hi) (by omega)
   ·exact absurd (h.inj i id b hi q) q1
  ·exact h.inj i j b hi hj
 lt:=by
  intro i b hi
  simp only [BS]at hi
  split at hi
  ·exact(hn b hi).2
  ·exact Nat.lt_of_lt_of_le (h.lt i b hi) hs
 new:=by
  intro i b hi
  simp only [BS]at hi
  split at hi
  ·rcases (hn b hi).1 with q | q
   ·exact .inl (Nat.le_trans h.hsize q)
   ·exact h.new id b q
  ·exact h.new i b hi
 wr:=fun b=>Iff.rfl
 avlt:=h.avlt
 inv:=h.inv
 avold:=h.avold
 os:=ho.os.trans h.os
 tape:=ho.tape.trans h.tape
 output:=ho.output.trans h.output
 hsize:=Nat.le_trans h.hsize hs
 ext:=fun b hb hold=>(hext b hb hold).trans (h.ext b hb hold)
theorem R.keeps {F:Fr} {st:St} {a:Act} {w w':World} {G:Ay} (h:R F st a w G) (id:Ah) (nb:Option Nat) (nv:Option Value)
 (hs:w.heap.size≤w'.heap.size) (hblk: ∀ b,b<w.heap.size→(G.blk id ≠ some b)→w'.heap[b]? =w.heap[b]?)
 (hn: ∀ b,nb=some b→w.heap.size≤b∨(G.blk id=some b∧BX w w' b)):B3 G (BS F G id nb nv) w w' where
 size:=hs
 block:=fun b hb hw=>hblk b hb (fun he=>hw ((h.wr b).2 (.inr ⟨id,he⟩)))
 wr:=by
  intro b hb hw
  simp only [BS]at hw
  rw [h.wr]
  rcases hw with hw | ⟨i,hi⟩
  ·exact .inl hw
  ·split at hi
   ·rcases hn b hi with q | q
    ·omega
    ·exact .inr ⟨id,q.1⟩
   ·exact .inr ⟨i,hi⟩
 ty:=by
  intro i b h1 h2
  have hb:=h.lt i b h1
  simp only [BS]at h2
  split at h2
  ·rcases hn b h2 with q | q
   ·omega
   ·exact q.2
  ·rename_i hne
   exact BX.same (hblk b hb (fun q=>hne (h.inj _ _ b h1 q)))
theorem CP {F:Fr} {G:Ay} {id:Ah} {nb:Option Nat} {nv:Option Value} {S:Ah→Prop} (hS: ∀ i,S i→i ≠ id):HK S G (BS F G id nb nv):=
 fun i hi=>by simp [BS,hS i hi]
theorem R.set {F:Fr} {st:St} {a:Act} {w w':World} {G:Ay} (h:R F st a w G) (e:As) (nb:Option Nat) (nv:Option Value)
 (ho:JR w w') (hs:w.heap.size≤w'.heap.size) (hblk: ∀ b,b<w.heap.size→(G.blk e.id ≠ some b)→w'.heap[b]? =w.heap[b]?)
 (hext: ∀ b,b<F.w0.heap.size→ ¬F.old b→w'.heap[b]? =w.heap[b]?)
 (hn: ∀ b,nb=some b→(w.heap.size≤b∨(G.blk e.id=some b∧BX w w' b))∧b<w'.heap.size) (hp:e.pu=true→Ao e.cs=true) (he:AX w' (BS F G e.id nb nv) (e.kill e.id)):R F (st.new e) a w' (BS F G e.id nb nv):=by
 have hk:=h.keeps e.id nb nv hs hblk (fun b hb=>(hn b hb).1)
 refine h.rename e.id nb nv ho hs hext (fun b hb=>⟨(hn b hb).1.imp id And.left,(hn b hb).2⟩) (st.new e) (by simp [St.new,St.kill]) ?_ ?_ ?_ ?_ ?_ ?_
 ·intro i
  simp only [St.new,St.kill]
  rw [EE (by simp [D5,V.men])]
  exact Ab.mono hk _ _ (CP (fun i hi he'=>by subst he';rw [Nb]at hi;cases hi)) (Nf (h.slots i))
 ·simp only [St.new,St.kill]
  exact Ap.mono hk _ _ (CP (fun i hi he'=>by subst he';rw [Lo]at hi;cases hi)) (Ln h.ghosts)
 ·intro e' he'
  simp only [St.new,St.kill]at he'
  rcases GN he' with ⟨rfl,_⟩ | he'
  ·exact Kt hp
  ·simp only [List.mem_map,List.mem_filter]at he'
   obtain⟨d,⟨hd,hne⟩,rfl⟩:=he'
   exact Kt (h.pures d hd)
 ·intro e' he'
  simp only [St.new,St.kill]at he'
  rcases GN he' with ⟨rfl,_⟩ | he'
  ·exact he
  ·simp only [List.mem_map,List.mem_filter,Bool.and_eq_true]at he'
   obtain⟨d,⟨hd,hne,_⟩,rfl⟩:=he'
   have hne':d.id ≠ e.id:=by simpa using hne
   refine Cj hk (CP (fun i hi he'=>by subst he';rw [WK (h.pures d hd)]at hi;cases hi)) (by simp [BS,As.kill_id,hne']) ?_ (Uc (h.store d hd))
   intro b hb
   rw [As.kill_id]at hb
   exact hblk b (h.lt _ b hb) (fun q=>hne' (h.inj _ _ b hb q))
 ·intro e' he'
  simp only [St.new,St.kill]at he'
  rcases GN he' with ⟨rfl,h1,h2⟩ | he'
  ·exact Bi.triv h1 h2
  ·simp only [List.mem_map,List.mem_filter,Bool.and_eq_true]at he'
   obtain⟨d,⟨hd,hne,hmd⟩,rfl⟩:=he'
   have hne':d.id ≠ e.id:=by simpa using hne
   have hmk:Ed (d.kill e.id).id =true→ ∀ k,BH k (d.kill e.id).id ≠ e.id:=by
    intro hq k hk2
    rw [As.kill_id]at hq hk2
    rw [←hk2,WF,hq]at hmd
    cases hmd
   refine Bi.mono hk (by simp [BS,As.kill_id,hne']) (fun hq k=>by simp [BS,hmk hq k]) ?_ (fun hq k b hb=>hblk b (h.lt _ b hb) (fun q=>hmk hq k (h.inj _ _ b hb q))) (h.deep d hd).kill
   intro b hb
   rw [As.kill_id]at hb
   exact hblk b (h.lt _ b hb) (fun q=>hne' (h.inj _ _ b hb q))
 ·have hsub:List.Sublist (((st.new e).so.map (·.id))) (e.id::((st.so.filter (fun d=>d.id != e.id&& !(CJ e.id&&Ed d.id))).map (·.id))):=by
   simp only [St.new,St.kill,Og]
   split
   ·simp only [List.map_map,Function.comp_def,As.kill_id]
    exact List.Sublist.cons _ (List.Sublist.refl _)
   ·simp only [List.map_cons,List.map_map,Function.comp_def,As.kill_id]
    exact List.Sublist.refl _
  refine List.Sublist.nodup hsub (List.nodup_cons.2 ⟨by simp;exact fun x _ h _=>h,?_⟩)
  exact List.Sublist.nodup (List.Sublist.map (fun d:As=>d.id) List.filter_sublist) h.nodup
theorem R.put {F:Fr} {st:St} {a:Act} {w:World} {G:Ay} (h:R F st a w G) {d:Option Nat} {x:V} {v:Value} (hx:Ab w G x v):R F (st.put d x) (a.put d v) w G:=by
 cases d with
 | none=>exact h
 | some d=>
   exact {
    dfr:=h.dfr
    size:=by simp [St.put,Act.put,h.size]
    slots:=by
     intro i
     simp only [St.put,Act.put]
     by_cases hi:i=d
     ·subst hi
      by_cases hl:i<st.tm.length
      ·simp [List.getD_eq_getElem?_getD,hl,h.size,hx]
      ·simp [List.getD_eq_getElem?_getD,hl,Ab]
     ·have h1:(st.tm.set d x).getD i .undef =st.tm.getD i .undef :=by
       simp [List.getD_eq_getElem?_getD,List.getElem?_set,Ne.symm hi]
      have h2:(a.tmps.setIfInBounds d v).getD i Go.undef=a.tmps.getD i Go.undef:=by
       simp [Array.getD_eq_getD_getElem?,Array.getElem?_setIfInBounds,Ne.symm hi]
      rw [h1,h2];exact h.slots i
    ghosts:=by simpa [St.put] using h.ghosts
    store:=h.store,deep:=h.deep,pures:=h.pures,nodup:=h.nodup,inj:=h.inj,lt:=h.lt,new:=h.new,wr:=h.wr,avlt:=h.avlt,inv:=h.inv,avold:=h.avold,os:=h.os,tape:=h.tape,output:=h.output,hsize:=h.hsize,ext:=h.ext}
theorem R.same {F:Fr} {st:St} {a:Act} {w w':World} {G:Ay} (h:R F st a w G) (ho:JR w w') (hs:Cv w w'):R F st a w' G:=by
 have hk:B3 G G w w':=⟨hs.size,fun b hb _=>hs.block b hb,fun b _ h=>h,fun i b h1 _=>BX.same (hs.block b (h.lt i b h1))⟩
 exact {
  dfr:=h.dfr,size:=h.size
  slots:=fun i=>Ab.mono hk _ _ (fun _ _=>⟨rfl,rfl⟩) (h.slots i)
  ghosts:=Ap.mono hk _ _ (fun _ _=>⟨rfl,rfl⟩) h.ghosts
  store:=fun e he=>Cj hk (fun _ _=>⟨rfl,rfl⟩) ⟨rfl,rfl⟩ (fun b hb=>hs.block b (h.lt _ b hb)) (h.store e he)
  deep:=fun e he=>Bi.mono hk ⟨rfl,rfl⟩ (fun _ _=>⟨rfl,rfl⟩) (fun b hb=>hs.block b (h.lt _ b hb)) (fun _ k b hb=>hs.block b (h.lt _ b hb)) (h.deep e he)
  pures:=h.pures
  nodup:=h.nodup,inj:=h.inj
  lt:=fun i b hb=>Nat.lt_of_lt_of_le (h.lt i b hb) hs.size
  new:=h.new,wr:=h.wr,avlt:=h.avlt,inv:=h.inv,avold:=h.avold
  os:=ho.os.trans h.os,tape:=ho.tape.trans h.tape,output:=ho.output.trans h.output
  hsize:=Nat.le_trans h.hsize hs.size
  ext:=fun b hb hold=>(hs.block b (Nat.lt_of_lt_of_le hb h.hsize)).trans (h.ext b hb hold)}
end Go.PL
namespace Go.PL
open Go Go.RowKit
theorem Vs {w:World} {o:Obj} {b:Nat} (h:b<w.heap.size):(w.heap.push o)[b]? =w.heap[b]? :=by
 rw [Array.getElem?_push];split
 ·omega
 ·rfl
theorem C2 (w:World) (o:Obj):(w.alloc o).heap =w.heap.push o:=rfl
theorem HO (w:World) (o:Obj):JR w (w.alloc o):=⟨rfl,rfl,rfl⟩
theorem GY (w:World) (o:Obj):Cv w (w.alloc o):=⟨by simp [C2],fun b hb=>by rw [C2];exact Vs hb⟩
theorem FL {F:Fr} {st:St} {a:Act} {w w':World} {G:Ay} (h:R F st a w G) {id:Ah} {nb:Option Nat} {nv:Option Value} (hk:B3 G (BS F G id nb nv) w w')
 {cs:List C} {vs:List Value} {row:Option (TypeId×Nat×Nat)} {pu:Bool} (hp:pu=true→Ao cs=true) (hr:Ai w G cs vs):Ai w' (BS F G id nb nv) (As.kill id ⟨id,row,cs,pu⟩).cs vs:=by
 cases pu with
 | true=>exact Ai.mono hk _ _ (CP (fun i hi he'=>by subst he';have:=AG i cs (hp rfl);simp only [As.kill]at hi;rw [this]at hi;cases hi)) hr
 | false=>exact Ai.mono hk _ _ (CP (fun i hi he'=>by subst he';simp only [As.kill]at hi;rw [Nc]at hi;cases hi)) (Nd hr)
theorem JS {id:Ah} {row:Option (TypeId×Nat×Nat)} {cs:List C} {pu:Bool}:(As.kill id ⟨id,row,cs,pu⟩).cs.length =cs.length:=by cases pu<;>simp [As.kill]
theorem WL {w:World} {G:Ay} {e:As} (hrow:e.row=none) (h: ∃ b T cur,G.blk e.id=some b∧w.heap[b]? =some (.cells cur T (0,0))∧cur.size=e.cs.length∧Ak w G e.cs b 0):AX w G e:=by
 unfold AX;rw [hrow]
 obtain⟨b,T,cur,h1,h2⟩:=h
 exact⟨b,h1, .inr ⟨T,cur,h2⟩⟩
theorem GZ {w:World} {G:Ay} {e:As} {E n len:Nat} (hrow:e.row=some (E,n,len)) (h:e.cs.length=len*n∧ ∃ v,G.own e.id=some v∧
 ((∃ p,v= .slice p 0 0∧len=0∧G.blk e.id=none)∨
  ∃ b cap cur,v= .slice (some ⟨b,0,none⟩) len cap∧G.blk e.id=some b∧w.heap[b]? =some (.cells cur E (0,0))∧len≤cap∧cap≤maxLen∧cur.size=cap*n∧Ak w G e.cs b 0)):AX w G e:=by
 unfold AX;rw [hrow];exact h
theorem Ih (w:World) (cur:Array Value) (T:TypeId):(w.alloc (.cells cur T)).rangeAt w.heap.size 0 cur.toList:=by
 intro j v hv
 simp only [World.cell?,C2]
 simp at hv
 simp [hv]
theorem R.box {F:Fr} {st:St} {a:Act} {w:World} {G:Ay} (h:R F st a w G) (id:Ah) (T:TypeId) (cs:List C) (cur:Array Value) (hr:Ai w G cs cur.toList) (pu:Bool) (hp:pu=true→Ao cs=true):
 R F (st.new ⟨id,none,cs,pu⟩) a (w.alloc (.cells cur T)) (BS F G id (some w.heap.size) none):=by
 have hsame:=GY w (.cells cur T)
 refine h.set ⟨id,none,cs,pu⟩ (some w.heap.size) none (HO _ _) hsame.size (fun b hb _=>hsame.block b hb) (fun b hb _=>hsame.block b (Nat.lt_of_lt_of_le hb h.hsize)) ?_ hp ?_
 ·intro b hb;injection hb with hb;subst hb;exact⟨.inl (Nat.le_refl _),by simp [C2]⟩
 ·refine WL (As.kill_row _ _) ⟨w.heap.size,T,cur,by simp [BS,As.kill_id],by simp [C2],by rw [JS];simpa using hr.length.symm,?_⟩
  exact Ak.of_list (FL h (h.keeps id _ _ hsame.size (fun b hb _=>hsame.block b hb) (fun b hb=> .inl (by injection hb with hb;omega))) hp hr) (Ih w cur T)
theorem R.row {F:Fr} {st:St} {a:Act} {w:World} {G:Ay} (h:R F st a w G) (id:Ah) (T n len cap:Nat) (cs:List C) (cur:Array Value) (vs:List Value) (hr:Ai w G cs vs) (hp:cur.toList.take vs.length=vs)
 (hl:cs.length=len*n) (hc:cur.size=cap*n) (hlc:len≤cap) (hm:cap≤maxLen) (pu:Bool) (hp':pu=true→Ao cs=true):
 R F (st.new ⟨id,some (T,n,len),cs,pu⟩) a (w.alloc (.cells cur T)) (BS F G id (some w.heap.size) (some (.slice (some ⟨w.heap.size,0,none⟩) len cap))):=by
 have hsame:=GY w (.cells cur T)
 refine h.set ⟨id,some (T,n,len),cs,pu⟩ (some w.heap.size) _ (HO _ _) hsame.size (fun b hb _=>hsame.block b hb) (fun b hb _=>hsame.block b (Nat.lt_of_lt_of_le hb h.hsize)) ?_ hp' ?_
 ·intro b hb;injection hb with hb;subst hb;exact⟨.inl (Nat.le_refl _),by simp [C2]⟩
 ·refine GZ (As.kill_row _ _) ⟨by rw [JS];exact hl,_,by simp only [BS,As.kill_id,if_true], .inr ⟨w.heap.size,cap,cur,rfl,by simp [BS,As.kill_id],by simp [C2],hlc,hm,hc,?_⟩⟩
  refine Ak.of_list (FL h (h.keeps id _ _ hsame.size (fun b hb _=>hsame.block b hb) (fun b hb=> .inl (by injection hb with hb;omega))) hp' hr) ?_
  intro j v hv
  refine Ih w cur T j v ?_
  rw [←hp,List.getElem?_take]at hv
  split at hv
  ·exact hv
  ·cases hv
theorem R.clipRow {F:Fr} {st:St} {a:Act} {w:World} {G:Ay} (h:R F st a w G) (id:Ah) (T n:Nat) (p:Option Addr):
 R F (st.new ⟨id,some (T,n,0),[],true⟩) a w (BS F G id none (some (.slice p 0 0))):=by
 refine h.set ⟨id,some (T,n,0),[],true⟩ none _ ⟨rfl,rfl,rfl⟩ (Nat.le_refl _) (fun _ _ _=>rfl) (fun _ _ _=>rfl) (fun b hb=>by cases hb) (fun _=>rfl) ?_
 simp only [AX,As.kill]
 exact⟨by simp, .slice p 0 0,by simp [BS], .inl ⟨p,rfl,trivial,by simp [BS]⟩⟩
theorem R.nilRow {F:Fr} {st:St} {a:Act} {w:World} {G:Ay} (h:R F st a w G) (id:Ah) (T n:Nat):
 R F (st.new ⟨id,some (T,n,0),[],true⟩) a w (BS F G id none (some (.slice none 0 0))):=h.clipRow id T n none
def V.cells:V→Option (List C)
 | .c x=>some [x]
 | .agg cs=>some cs
 | _=>none
theorem G4 {w:World} {G:Ay} {x:V} {v:Value} {cs:List C} (h:Ab w G x v) (hc:x.cells=some cs):Ai w G cs v.cells.toList:=by
 unfold V.cells at hc
 split at hc
 ·injection hc with hc;subst hc
  simp only [Ab]at h
  have:=h.one
  have e:v.cells= #[v]:=by
   cases v<;>simp_all [Value.cells,Value.oneCell']
  rw [e]
  simpa [Ai] using h
 ·injection hc with hc;subst hc
  simp only [Ab]at h
  obtain⟨arr,rfl,hr⟩:=h
  simpa [Value.cells] using hr
 ·cases hc
def K0 (P:Program) (t:TypeId):Option (List C):=
 match P.info? t with
 | some i=>match i.zero with
   | some z=>Dh z.cells.toList
   | none=>none
 | none=>none
theorem G5 {P:Program} {t:TypeId} {cs:List C} (h:K0 P t=some cs): ∃ i z,P.info? t=some i∧i.zero=some z∧Dh z.cells.toList=some cs:=by
 unfold K0 at h
 split at h
 ·rename_i i hi
  split at h
  ·rename_i z hz;exact⟨i,z,hi,hz,h⟩
  ·cases h
 ·cases h
theorem run_zeroValue' {P:Program} {t:TypeId} {i:TypeInfo} {z:Value} (hi:P.info? t=some i) (hz:i.zero=some z) (w:World):(zeroValue t).run P w= .ok z w:=by
 simp [zeroValue,typeInfo,program,Sem.run,hi,hz]
def G6 (place:Nat→Option (Nat×Nat)) (cells:List C):List (Nat×V)→Option (List C)
 | []=>some cells
 | (i,v)::rest=>match place i,v.cells with
   | some (off,size),some cs=>if cs.length=size∧off+size≤cells.length then G6 place (cells.take off++cs++cells.drop (off+size)) rest else none
   | _,_=>none
def Mg (w:World) (G:Ay):List (Nat×V)→List (Nat×Value)→Prop
 | [],[]=>True
 | (i,x)::xs,(j,v)::vs=>i=j∧Ab w G x v∧Mg w G xs vs
 | _,_=>False
theorem bD (vs:List Value) (off:Nat): ∀ (k:Nat) (cs:Array Value),off+k+vs.length≤cs.size→
 ((vs.zipIdx k).foldl (fun cs (c,j)=>cs.setIfInBounds (off+j) c) cs).toList =cs.toList.take (off+k)++vs++cs.toList.drop (off+k+vs.length):=by
 induction vs with
 | nil=>intro k cs _;simp
 | cons v vs ih=>
   intro k cs hk
   simp only [List.zipIdx_cons,List.foldl_cons]
   simp only [List.length_cons]at hk ⊢
   rw [ih (k+1) _ (by simp;omega)]
   have hlt:off+k<cs.toList.length:=by simp;omega
   rw [Array.toList_setIfInBounds,List.set_eq_take_append_cons_drop,if_pos hlt]
   have e1:(cs.toList.take (off+k)).length =off+k:=by rw [List.length_take];omega
   rw [List.take_append,List.drop_append,e1]
   rw [show off+(k+1) - (off+k)=1 by omega,show off+(k+1)+vs.length - (off+k)=vs.length+1 by omega]
   rw [List.take_take,show min (off+(k+1)) (off+k)=off+k by omega]
   have e3:List.drop (off+(k+1)+vs.length) (List.take (off+k) cs.toList)=[]:=List.drop_of_length_le (by rw [e1];omega)
   rw [e3]
   simp only [List.take_succ_cons,List.take_zero,List.drop_succ_cons,List.drop_drop,List.nil_append,List.append_assoc,List.cons_append]
   rw [show off+k+1+vs.length=off+k+(vs.length+1) by omega]
theorem I4 {w:World} {G:Ay} {place:Nat→Option (Nat×Nat)}: ∀ {ps:List (Nat×V)} {qs:List (Nat×Value)} {cells out:List C} {arr:Array Value},
 G6 place cells ps=some out→Mg w G ps qs→Ai w G cells arr.toList→ ∃ arr',Instr.fill place arr qs=some arr'∧Ai w G out arr'.toList
 | [],[],cells,out,arr,h,_,hr=>by
   simp only [G6,Option.some.injEq]at h;subst h
   exact⟨arr,rfl,hr⟩
 | [],_::_,_,_,_,_,h,_=>by simp [Mg]at h
 | _::_,[],_,_,_,_,h,_=>by simp [Mg]at h
 | (i,x)::ps,(j,v)::qs,cells,out,arr,h,hp,hr=>by
   simp only [Mg]at hp
   obtain⟨rfl,hv,hp⟩:=hp
   simp only [G6]at h
   split at h
   ·rename_i off size cs hpl hcs
    split at h
    ·rename_i hb
     have hvc:=G4 hv hcs
     have hl:=hr.length
     have hlv:=hvc.length
     have e:=bD v.cells.toList off 0 arr (by simp at hl hlv ⊢;omega)
     simp only [Instr.fill,hpl]
     rw [if_neg (by simp at hl hlv ⊢;omega)]
     refine I4 h hp ?_
     rw [←Array.foldl_toList,Array.toList_zipIdx,e]
     simp only [Nat.add_zero]
     have:v.cells.toList.length=size:=by rw [←hlv];exact hb.1
     rw [this]
     exact((hr.take off).append hvc).append (hr.drop (off+size))
    ·cases h
   ·cases h
end Go.PL
namespace Go.PL
open Go Go.RowKit
theorem By {w:World} {b:Nat} {cur:Array Value} {T:TypeId} {fr:Nat×Nat} (h:w.heap[b]? =some (.cells cur T fr)) {us rest:List Value} (e:us++rest=cur.toList):w.rangeAt b 0 us:=by
 intro j v hv
 have h2:cur.toList[j]? =some v:=by
  rw [←e,List.getElem?_append_left]
  ·exact hv
  ·exact(List.getElem?_eq_some_iff.1 hv).1
 simp only [World.cell?,h]
 simpa using h2
theorem FM {w:World} {b:Nat} {cur:Array Value} {T:TypeId} {fr:Nat×Nat} (h:w.heap[b]? =some (.cells cur T fr)) {us:List Value} (hr:w.rangeAt b 0 us):us++cur.toList.drop us.length=cur.toList:=by
 have:us=cur.toList.take us.length:=by
  apply List.ext_getElem?
  intro j
  by_cases hj:j<us.length
  ·have:=hr j us[j] (by simp [hj])
   simp only [World.cell?,h,Nat.zero_add]at this
   rw [List.getElem?_take,if_pos hj]
   have h3:cur.toList[j]? =some us[j]:=by simpa using this
   rw [h3];simp [hj]
  ·rw [List.getElem?_eq_none (by omega),List.getElem?_take,if_neg hj]
 conv=>lhs;lhs;rw [this]
 rw [List.take_append_drop]
def St.setCs (st:St) (id:Ah) (cs:List C) (q:Bool):St:={st with so:=st.so.map fun e=>if e.id==id then⟨e.id,e.row,cs,e.pu&&q⟩else e}
theorem R.stored {F:Fr} {st:St} {a:Act} {w:World} {G:Ay} (h:R F st a w G) {id:Ah} {e:As} (he:st.look id=some e) {b:Nat} (hb:G.blk id=some b) {off:Nat} {xs:List C} {vs:List Value}
 (hx:Ai w G xs vs) (hoff:off+xs.length≤e.cs.length):
 ∃ cur T,w.heap[b]? =some (.cells cur T (0,0))∧off+vs.length≤cur.size∧
   R F (st.setCs id (e.cs.take off++xs++e.cs.drop (off+xs.length)) (Ao xs)) a (w.setRow b (cur.toList.take off++vs++cur.toList.drop (off+vs.length)).toArray) G:=by
 obtain⟨hm,hid⟩:=A0 he
 obtain⟨cur,T,hheap,hle,hrow⟩:=(h.store e hm).row (PW he) (by rw [hid];exact hb)
 obtain⟨us,h1,h2⟩:=hrow.list
 have hlx:=hx.length
 have hlu:=h1.length
 have hpre:=FM hheap h2
 refine⟨cur,T,hheap,by omega,?_⟩
 have hbl: ∀ k,k ≠ b→(w.setRow b (cur.toList.take off++vs++cur.toList.drop (off+vs.length)).toArray).heap[k]? =w.heap[k]? :=fun k hk=>setRow_other w b k _ hk
 have hnew:=setRow_heap w b cur (cur.toList.take off++vs++cur.toList.drop (off+vs.length)).toArray T (0,0) hheap
 have hk:B3 G G w (w.setRow b (cur.toList.take off++vs++cur.toList.drop (off+vs.length)).toArray):=
  ⟨by simp,fun k _ hw=>hbl k (fun q=>hw ((h.wr k).2 (.inr ⟨id,by rw [q];exact hb⟩))),fun _ _ q=>q,fun i k h1 _=>by
   by_cases hkb:k=b
   ·subst hkb
    intro cur' T' fz' hq
    rw [hheap]at hq
    injection hq with hq
    injection hq with _ hq _
    subst hq
    exact⟨_,_,hnew⟩
   ·exact BX.same (hbl k hkb)⟩
 have hsplit:(us.take off++vs++us.drop (off+vs.length))++cur.toList.drop us.length=(cur.toList.take off++vs++cur.toList.drop (off+vs.length)).toArray.toList :=by
  conv=>rhs;rw [←hpre]
  simp only [List.append_assoc]
  rw [List.take_append_of_le_length (by omega),List.drop_append_of_le_length (by omega)]
 have hrange:=By hnew hsplit
 have hl2:Ai w G (e.cs.take off++xs++e.cs.drop (off+xs.length)) (us.take off++vs++us.drop (off+vs.length)):=by
  rw [hlx]
  exact((h1.take off).append hx).append (h1.drop _)
 have hrow':=Ak.of_list (Ai.mono hk _ _ (fun _ _=>⟨rfl,rfl⟩) hl2) hrange
 have hlen:(e.cs.take off++xs++e.cs.drop (off+xs.length)).length =e.cs.length:=by simp;omega
 have hcur:(cur.toList.take off++vs++cur.toList.drop (off+vs.length)).toArray.size =cur.size:=by simp;omega
 exact {
  dfr:=h.dfr,size:=h.size
  slots:=fun i=>Ab.mono hk _ _ (fun _ _=>⟨rfl,rfl⟩) (h.slots i)
  ghosts:=Ap.mono hk _ _ (fun _ _=>⟨rfl,rfl⟩) h.ghosts
  store:=by
   intro e' he'
   simp only [St.setCs,List.mem_map]at he'
   obtain⟨d,hd,rfl⟩:=he'
   split
   ·rename_i hdid
    replace hdid:d.id=id:=by simpa using hdid
    have:d=e:=by
     have hn:=h.nodup
     have:=List.pairwise_map.1 hn
     rcases List.mem_iff_getElem.1 hd with ⟨i,hi,rfl⟩
     rcases List.mem_iff_getElem.1 hm with ⟨j,hj,rfl⟩
     rcases Nat.lt_trichotomy i j with q | q | q
     ·exact absurd (hdid.trans hid.symm) (List.pairwise_iff_getElem.1 this i j hi hj q)
     ·subst q;rfl
     ·exact absurd (hid.trans hdid.symm) (List.pairwise_iff_getElem.1 this j i hj hi q)
    subst this
    have hE:=h.store d hd
    unfold AX at hE ⊢
    simp only
    split at hE
    ·rename_i hrn
     obtain⟨b',q1,hbx⟩:=hE
     obtain⟨T',cur',q2,q3,q4⟩:=hbx.cells (PW he hrn)
     rw [hid,hb]at q1;injection q1 with q1;subst q1
     rw [hheap]at q2;injection q2 with q2;injection q2 with q2a q2b;subst q2a q2b
     exact⟨b,by rw [hid];exact hb, .inr ⟨T,_,hnew,by rw [hcur,hlen];exact q3,hrow'⟩⟩
    ·obtain⟨hl,v,q1,q2⟩:=hE
     refine⟨by rw [hlen];exact hl,v,q1,?_⟩
     rcases q2 with q2 | ⟨b',cap,cur',e1,e2,e3,e4,e5,e6,e7⟩
     ·obtain⟨_,_,_,q3⟩:=q2;rw [hid,hb]at q3;cases q3
     ·rw [hid,hb]at e2;injection e2 with e2;subst e2
      rw [hheap]at e3;injection e3 with e3;injection e3 with e3a e3b;subst e3a e3b
      exact .inr ⟨b,cap,_,e1,by rw [hid];exact hb,hnew,e4,e5,by rw [hcur];exact e6,hrow'⟩
   ·rename_i hdid
    replace hdid: ¬d.id=id:=by simpa using hdid
    exact Cj hk (fun _ _=>⟨rfl,rfl⟩) ⟨rfl,rfl⟩ (fun k hk'=>hbl k (fun q=>hdid (h.inj _ _ k hk' (by rw [q];exact hb)))) (h.store d hd)
  deep:=by
   intro e' he'
   simp only [St.setCs,List.mem_map]at he'
   obtain⟨d,hd,rfl⟩:=he'
   split
   ·rename_i hdid
    replace hdid:d.id=id:=by simpa using hdid
    exact Bi.triv (h.deep d hd).1 (by show Ed d.id=false;rw [hdid];exact En he)
   ·rename_i hdid
    replace hdid: ¬d.id=id:=by simpa using hdid
    refine Bi.mono hk ⟨rfl,rfl⟩ (fun _ _=>⟨rfl,rfl⟩) (fun k hk'=>hbl k (fun q=>hdid (h.inj _ _ k hk' (by rw [q];exact hb)))) (fun _ k b' hb'=>hbl b' (fun q=>?_)) (h.deep d hd)
    have h1:BH k d.id=id:=h.inj _ _ b' hb' (by rw [q];exact hb)
    have h2:=(h.deep e hm).1
    rw [hid, ←h1]at h2
    cases h2
  pures:=by
   intro e' he'
   simp only [St.setCs,List.mem_map]at he'
   obtain⟨d,hd,rfl⟩:=he'
   split
   ·rename_i hdid
    replace hdid:d.id=id:=by simpa using hdid
    have:d=e:=by
     have hn:=h.nodup
     have:=List.pairwise_map.1 hn
     rcases List.mem_iff_getElem.1 hd with ⟨i,hi,rfl⟩
     rcases List.mem_iff_getElem.1 hm with ⟨j,hj,rfl⟩
     rcases Nat.lt_trichotomy i j with q | q | q
     ·exact absurd (hdid.trans hid.symm) (List.pairwise_iff_getElem.1 this i j hi hj q)
     ·subst q;rfl
     ·exact absurd (hid.trans hdid.symm) (List.pairwise_iff_getElem.1 this j i hj hi q)
    subst this
    intro hq
    simp only [Bool.and_eq_true]at hq
    simp only [Bk,Bool.and_eq_true]
    exact⟨⟨IZ _ (h.pures d hd hq.1),hq.2⟩,I1 _ (h.pures d hd hq.1)⟩
   ·exact h.pures d hd
  nodup:=by
   have:(st.setCs id (e.cs.take off++xs++e.cs.drop (off+xs.length)) (Ao xs)).so.map (·.id)=st.so.map (·.id):=by
    simp only [St.setCs,List.map_map]
    apply List.map_congr_left
    intro d _
    simp only [Function.comp]
    split<;>rfl
   rw [this];exact h.nodup
  inj:=h.inj
  lt:=fun i k hi=>by simpa using h.lt i k hi
  new:=h.new,wr:=h.wr,avlt:=h.avlt,inv:=h.inv,avold:=h.avold
  os:=by simpa using h.os
  tape:=by simpa using h.tape
  output:=by simpa using h.output
  hsize:=by simpa using h.hsize
  ext:=fun k hk' hold=>(hbl k (fun q=>by
   rcases h.new id b hb with q2 | q2
   ·omega
   ·exact hold (by rw [q];exact q2))).trans (h.ext k hk' hold)}
theorem EF {w:World} {G:Ay} {e:As} {E n len:Nat} (hrow:e.row=some (E,n,len)) (h:AX w G e):
 ∃ v vs,G.own e.id=some v∧v.oneCell'=true∧Ai w G e.cs vs∧((w.ownsRow 0 E n v len vs∧v.ownBlock=G.blk e.id)∨ ∃ p,v= .slice (some p) 0 0∧len=0∧vs=[]∧G.blk e.id=none):=by
 unfold AX at h
 rw [hrow]at h
 obtain⟨hl,v,h1,h2⟩:=h
 rcases h2 with ⟨p,rfl,h0,hb⟩ | ⟨b,cap,cur,rfl,e2,e3,e4,e5,e6,e7⟩
 ·have hcs:e.cs=[]:=by cases hc:e.cs with
   | nil=>rfl
   | cons c cs=>rw [hc,h0]at hl;simp at hl
  cases p with
  | none=>exact⟨_,[],h1,rfl,by rw [hcs];simp [Ai], .inl ⟨⟨by rw [h0];simp, .inl ⟨rfl,h0⟩⟩,by rw [hb];rfl⟩⟩
  | some p=>exact⟨_,[],h1,rfl,by rw [hcs];simp [Ai], .inr ⟨p,rfl,h0,rfl,hb⟩⟩
 ·obtain⟨us,q1,q2⟩:=e7.list
  have hlu:=q1.length
  have hpre:=FM e3 q2
  refine⟨_,us,h1,rfl,q1, .inl ⟨⟨by omega, .inr ⟨b,cap,cur,rfl,Nat.zero_le _,e3,e4,e5,e6,?_⟩⟩,by rw [e2];rfl⟩⟩
  rw [←hpre,List.take_append_of_le_length (by omega)]
  exact List.take_of_length_le (by omega)
theorem R.appended {F:Fr} {st:St} {a:Act} {w w':World} {G:Ay} (h:R F st a w G) {id:Ah} {e:As} (he:st.look id=some e) {E n len m:Nat}
 {v v':Value} {xs us:List Value} {cs:List C} {q:Bool} (hq:q=true→Ao cs=true) (hob:v.ownBlock=G.blk id) (h1:Ai w G e.cs xs) (h2:Ai w G cs us)
 (hold:w.ownsRow 0 E n v len xs) (hnew:w'.ownsRow 0 E n v' (len+m) (xs++us)) (hg:w.grownBy w' v.ownBlock) (hfr:v'.ownBlock=v.ownBlock∨ ∀ b,v'.ownBlock=some b→w.heap.size≤b):
 ∃ G',R F (st.new ⟨id,some (E,n,len+m),e.cs++cs,e.pu&&q⟩) a w' G'∧G'.own id=some v'∧v'.oneCell'=true:=by
 obtain⟨hm,hid⟩:=A0 he
 have hblk: ∀ b,b<w.heap.size→G.blk id ≠ some b→w'.heap[b]? =w.heap[b]? :=fun b hb hne=>hg.block b hb (by rw [hob];exact fun q=>hne q.symm)
 have hn: ∀ b,v'.ownBlock=some b→w.heap.size≤b∨(G.blk id=some b∧BX w w' b):=by
  intro b hb
  rcases hfr with q | q
  ·refine .inr ⟨by rw [←hob, ←q];exact hb,?_⟩
   have hb2:v.ownBlock=some b:=by rw [←q];exact hb
   intro cur T fz hc
   rcases hnew.2 with ⟨r,_⟩ | ⟨g,cap,cur',r,_,r2,_⟩
   ·rw [r]at hb;cases hb
   ·rw [r]at hb
    simp only [Value.ownBlock,Option.some.injEq]at hb
    subst hb
    rcases hold.2 with ⟨r3,_⟩ | ⟨g3,cap3,cur3,r3,_,r4,_⟩
    ·rw [r3]at hb2;cases hb2
    ·rw [r3]at hb2
     simp only [Value.ownBlock,Option.some.injEq]at hb2
     subst hb2
     rw [r4]at hc
     injection hc with hc
     injection hc with _ hc _
     subst hc
     exact⟨_,_,r2⟩
  ·exact .inl (q b hb)
 have hlt: ∀ b,v'.ownBlock=some b→b<w'.heap.size:=fun b hb=>(hnew.lt b hb).2
 have hone:v'.oneCell'=true:=by
  rcases hnew.2 with ⟨q,_⟩ | ⟨g,cap,cur,q,_⟩<;>rw [q]<;>rfl
 refine⟨BS F G id v'.ownBlock (some v'),?_,by simp [BS],hone⟩
 have hk:=h.keeps id v'.ownBlock (some v') hg.size hblk hn
 have hpq:(e.pu&&q)=true→Ao (e.cs++cs)=true:=fun hx=>by
  simp only [Bool.and_eq_true]at hx
  rw [Bk,h.pures e hm hx.1,hq hx.2];rfl
 have hkill:=FL (row:=some (E,n,len+m)) h hk hpq (h1.append h2)
 refine h.set ⟨id,some (E,n,len+m),e.cs++cs,e.pu&&q⟩ v'.ownBlock (some v') ⟨hg.os,hg.tape,hg.output⟩ hg.size hblk ?_ (fun b hb=>⟨hn b hb,hlt b hb⟩) hpq ?_
 ·intro b hb hold2
  refine hblk b (Nat.lt_of_lt_of_le hb h.hsize) (fun q=>?_)
  rcases h.new id b q with q2 | q2
  ·omega
  ·exact hold2 q2
 ·have hl:=h1.length
  have hl2:=h2.length
  have hln:=hnew.1
  refine GZ (As.kill_row _ _) ⟨by rw [JS];simp at hln ⊢;omega,v',by simp [BS,As.kill_id],?_⟩
  rcases hnew.2 with ⟨q,h0⟩ | ⟨g,cap,cur,q,_,q2,q3,q4,q5,q6⟩
  ·exact .inl ⟨none,q,h0,by simp [BS,q,Value.ownBlock,As.kill_id]⟩
  ·refine .inr ⟨g,cap,cur,q,by simp [BS,q,Value.ownBlock,As.kill_id],q2,q3,q4,q5,?_⟩
   refine Ak.of_list (vs:=xs++us) ?_ ?_
   ·exact hkill
   ·exact By q2 (rest:=cur.toList.drop ((len+m)*n)) (by rw [←q6,List.take_append_drop])
theorem Jz {P:Program} {w:World} (t ty e:TypeId) (i:TypeInfo) (z:Value) (size bytes:Nat) (ht:P.underlying t=some (.slice e)) (hi:P.info? e=some i) (hz:i.zero=some z)
 (hsize:i.size=size) (hby:i.bytes=bytes) (hzs:z.cells.size=size) (hsz:0<size)
 (v:Value) (n:Nat) (xs:List Value) (hown:w.ownsRow 0 e size v n xs)
 (a:Addr) (m c:Nat) (news:List Value) (hl:news.length=m*size) (hnews: ∀ j u,news[j]? =some u→w.cell? (a.add j)=some u) (h1: ∀ u∈news,u.oneCell'=true)
 (h63:n+m≤maxLen) (hbytes:(n+m)*bytes≤140737488355328):
 ∃ v' w',(Builtin.append_ #[t,t] ty #[v, .slice (some a) m c]).run P w= .ok v' w'∧w'.ownsRow 0 e size v' (n+m) (xs++news)∧w.grownBy w' v.ownBlock∧
   (v'.ownBlock=v.ownBlock∨ ∀ b,v'.ownBlock=some b→w.heap.size≤b):=by
 subst hsize hby
 have hM:maxLen=9223372036854775807:=rfl
 have hlen:(xs++news).length =(n+m)*i.size:=by rw [List.length_append,hown.1,hl, ←Nat.add_mul]
 have grown: ∀ old,old<n+m→ ∀ row,
  (w.drew.alloc (.cells (xs.toArray++news.toArray++Builtin.zeroCells z.cells (grownCap w (n+m) old e - (n+m))) e)).ownsRow 0 e i.size
   (.slice (some ⟨w.heap.size,0,none⟩) (n+m) (grownCap w (n+m) old e)) (n+m) (xs++news)∧
  w.grownBy (w.drew.alloc (.cells (xs.toArray++news.toArray++Builtin.zeroCells z.cells (grownCap w (n+m) old e - (n+m))) e)) row:=by
  intro old ho row
  have hge:=grownCap_ge w (n+m) old e
  have hcm:grownCap w (n+m) old e≤maxLen:=grownCap_le_maxLen w (n+m) old e h63
  refine⟨⟨hlen, .inr ⟨w.heap.size,_,_,rfl,Nat.zero_le _,heap_alloc_new w.drew _,hge,hcm,?_,?_⟩⟩,⟨rfl,rfl,rfl,by simp,fun k hk _=>heap_alloc_old w.drew _ hk⟩⟩
  ·simp only [Array.size_append,List.size_toArray,size_zeroCells,hzs,hown.1,hl, ←Nat.add_mul]
   congr 1
   omega
  ·simp only [Array.toList_append,List.append_assoc]
   rw [←List.append_assoc, ←hlen]
   exact List.take_left
 rcases hown.2 with ⟨rfl,rfl⟩ | ⟨g,cap,cur,rfl,hbg,hg,hnc,hcm,hcs,htake⟩
 ·have hx:xs=[]:=List.eq_nil_of_length_eq_zero (by simpa using hown.1)
  subst hx
  by_cases hm:m=0
  ·subst hm
   have hn:news=[]:=List.eq_nil_of_length_eq_zero (by simpa using hl)
   subst hn
   refine⟨.slice none 0 0,w,?_,World.ownsRow_nil w 0 e i.size,⟨rfl,rfl,rfl,Nat.le_refl _,fun _ _ _=>rfl⟩, .inl rfl⟩
   simp [Builtin.append_,run_underlying ht,sizeOf,typeInfo,hi,Builtin.lenOf,Builtin.firstCells,loadCells,loadCellsFrom]
  ·have hr:=run_append_nil (P:=P) w t ty e i z ht hi hz a m c news hl hnews (by omega) (by omega) (by have hb:=hbytes;simp only [Nat.zero_add]at hb;omega)
   have hgr:=grown 0 (by omega) (Value.ownBlock (.slice none 0 0))
   simp only [Nat.zero_add,List.nil_append,Array.empty_append]at hgr ⊢
   exact⟨_,_,hr,hgr.1,hgr.2, .inr (fun b hb=>by simp [Value.ownBlock]at hb;omega)⟩
 ·by_cases hroom:n+m≤cap
  ·have hfit:n*i.size+news.length≤cur.size:=by rw [hl,hcs, ←Nat.add_mul];exact Nat.mul_le_mul_right _ hroom
   have hr:=run_append_room (P:=P) w t ty e i ht hi g n cap cur hg a m c news hl hnews h1 hroom hfit
   refine⟨_,_,hr,⟨hlen, .inr ⟨g,cap,_,rfl,hbg,setRow_heap w g cur _ e _ hg,hroom,hcm,?_,?_⟩⟩,⟨rfl,rfl,rfl,by simp,fun k _ hk=>setRow_other w g k _ (fun e=>hk (by simp [Value.ownBlock,e]))⟩, .inl rfl⟩
   ·simp only [List.size_toArray,List.length_append,List.length_take,List.length_drop,Array.length_toList]
    omega
   ·rw [htake, ←hlen]
    exact List.take_left
  ·have holds: ∀ j u,xs[j]? =some u→w.cell? ((⟨g,0,none⟩:Addr).add j)=some u:=hown.cells (g:=g) rfl
   have hr:=run_append_grow (P:=P) w t ty e i z ht hi hz ⟨g,0,none⟩ n cap xs hown.1 holds a m c news hl hnews (by omega) (by omega) (growslice_fits (by omega) hbytes)
   have hgr:=grown cap (by omega) (Value.ownBlock (.slice (some ⟨g,0,none⟩) n cap))
   exact⟨_,_,hr,hgr.1,hgr.2, .inr (fun b hb=>by simp [Value.ownBlock]at hb;omega)⟩
theorem R.appended0 {F:Fr} {st:St} {a:Act} {w:World} {G:Ay} (h:R F st a w G) {id:Ah} {e:As} {E n:Nat} {p:Addr} (pu:Bool) (hcs:e.cs=[]):
 ∃ G',R F (st.new ⟨id,some (E,n,0+0),e.cs++[],pu⟩) a w G'∧G'.own id=some (.slice (some p) 0 0):=by
 refine⟨BS F G id none (some (.slice (some p) 0 0)),?_,by simp [BS]⟩
 rw [hcs]
 refine h.set ⟨id,some (E,n,0+0),[]++[],pu⟩ none _ ⟨rfl,rfl,rfl⟩ (Nat.le_refl _) (fun _ _ _=>rfl) (fun _ _ _=>rfl) (fun b hb=>by cases hb) (fun _=>rfl) ?_
 refine GZ (As.kill_row _ _) ⟨by rw [JS];simp,_,by simp only [BS,As.kill_id,if_true], .inl ⟨some p,rfl,rfl,by simp [BS,As.kill_id]⟩⟩
theorem JA {P:Program} {w:World} (t ty e:TypeId) (i:TypeInfo) (z:Value) (size bytes:Nat) (ht:P.underlying t=some (.slice e)) (hi:P.info? e=some i) (hz:i.zero=some z)
 (hsize:i.size=size) (hby:i.bytes=bytes) (hzs:z.cells.size=size) (hsz:0<size) (p:Addr)
 (a:Addr) (m c:Nat) (news:List Value) (hl:news.length=m*size) (hnews: ∀ j u,news[j]? =some u→w.cell? (a.add j)=some u) (hm:0<m)
 (h63:m≤maxLen) (hbytes:m*bytes≤140737488355328):
 ∃ v' w',(Builtin.append_ #[t,t] ty #[.slice (some p) 0 0, .slice (some a) m c]).run P w= .ok v' w'∧w'.ownsRow 0 e size v' m news∧w.grownBy w' none∧
   ∀ b,v'.ownBlock=some b→w.heap.size≤b:=by
 subst hsize hby
 have hM:maxLen=9223372036854775807:=rfl
 have hr:=run_append_grow (P:=P) w t ty e i z ht hi hz p 0 0 [] (by simp) (fun j u hu=>by simp at hu) a m c news hl hnews (by omega) (by omega) (growslice_fits (by omega) (by simpa using hbytes))
 have hge:=grownCap_ge w (0+m) 0 e
 have hcm:grownCap w (0+m) 0 e≤maxLen:=grownCap_le_maxLen w (0+m) 0 e (by omega)
 refine⟨_,_,hr,⟨hl, .inr ⟨w.heap.size,_,_,by simp,Nat.zero_le _,heap_alloc_new w.drew _,by simpa using hge,hcm,?_,?_⟩⟩,⟨rfl,rfl,rfl,by simp,fun k hk _=>heap_alloc_old w.drew _ hk⟩,fun b hb=>by simp [Value.ownBlock]at hb;omega⟩
 ·simp only [Array.size_append,List.size_toArray,size_zeroCells,hzs,hl, ←Nat.add_mul,List.length_nil,Nat.zero_add]at hge ⊢
  congr 1
  omega
 ·simp only [Array.toList_append,List.nil_append]
  rw [←hl]
  exact List.take_left
end Go.PL
namespace Go.PL
open Go Go.RowKit
mutual
def V.pure:V→Bool
 | .c x=>x.pure
 | .agg cs=>Ao cs
 | .tup vs=>BZ vs
 | .g b v=> !b||v.pure
 | .undef =>true
def BZ:List V→Bool
 | []=>true
 | v::vs=>v.pure&&BZ vs
end
mutual
theorem Ku (id:Ah): ∀ v:V,v.pure=true→v.men id=false
 | .c x,h=>by simp only [V.men];exact FT id x (by simpa only [V.pure] using h)
 | .agg cs,h=>by simp only [V.men];exact AG id cs (by simpa only [V.pure] using h)
 | .tup vs,h=>by simp only [V.men];exact Qp id vs (by simpa only [V.pure] using h)
 | .g b v,h=>by
   cases b with
   | false=>simp [V.men]
   | true=>simp only [V.pure,Bool.not_true,Bool.false_or]at h;simp [V.men,Ku id v h]
 | .undef,_=>by simp [V.men]
theorem Qp (id:Ah): ∀ vs:List V,BZ vs=true→Ig id vs=false
 | [],_=>by simp [Ig]
 | v::vs,h=>by
   simp only [BZ,Bool.and_eq_true]at h
   simp [Ig,Ku id v h.1,Qp id vs h.2]
end
def im (av:Nat→Prop):Ay:=⟨fun _=>none,fun _=>none,av⟩
theorem Qq {w:World} {av:Nat→Prop} {G:Ay} (hG: ∀ b,b<w.heap.size→G.wr b→av b) {x:V} {v:Value} (hp:x.pure=true) (h:Ab w (im av) x v):Ab w G x v:=
 Ab.mono (G:=im av) (G':=G) ⟨Nat.le_refl _,fun _ _ _=>rfl,fun b hb hw=>hG b hb hw,fun _ _ _ _=>BX.same rfl⟩ x v (fun id hid=>absurd (show x.men id=true from hid) (by rw [Ku id x hp];simp)) h
theorem ae {w:World} {av:Nat→Prop} {G:Ay} (hG: ∀ b,b<w.heap.size→av b→G.wr b) {x:V} {v:Value} (hp:x.pure=true) (h:Ab w G x v):Ab w (im av) x v:=
 Ab.mono (G:=G) (G':=im av) ⟨Nat.le_refl _,fun _ _ _=>rfl,fun b hb hw=>hG b hb hw,fun _ _ _ _=>BX.same rfl⟩ x v (fun id hid=>absurd (show x.men id=true from hid) (by rw [Ku id x hp];simp)) h
def HG (id:Ah) (len:Nat) (cs:List C):C→C
 | .osl i=>if i=id then .sl len cs else .osl i
 | .ptr i o=>if i=id then .any else .ptr i o
 | .bsl i o n=>if i=id then .any else .bsl i o n
 | .rsl i N o n=>if i=id then .any else .rsl i N o n
 | .bld i T=>if i=id then .any else .bld i T
 | .mref i=>if i=id then .any else .mref i
 | .clo f ds=>if BE id ds then .any else .clo f ds
 | .bmv f ds=>if BE id ds then .any else .bmv f ds
 | c=>c
mutual
def Iz (id:Ah) (len:Nat) (cs:List C):V→V
 | .c x=> .c (HG id len cs x)
 | .agg ds=> .agg (ds.map (HG id len cs))
 | .tup vs=> .tup (IA id len cs vs)
 | .g b v=> .g b (Iz id len cs v)
 | .undef => .undef
def IA (id:Ah) (len:Nat) (cs:List C):List V→List V
 | []=>[]
 | v::vs=>Iz id len cs v::IA id len cs vs
end
def As.frz (id:Ah) (len:Nat) (cs:List C) (e:As):As:=match e with
 | ⟨i,r,ds,true⟩=>⟨i,r,ds,true⟩
 | ⟨i,r,ds,false⟩=>⟨i,r,ds.map (HG id len cs),false⟩
theorem As.frz_id (id:Ah) (len:Nat) (cs:List C) (e:As):(e.frz id len cs).id =e.id:=by obtain⟨i,r,cs,_ | _⟩:=e<;>rfl
theorem As.frz_mp {id:Ah} {len:Nat} {cs:List C} {e:As} {kv:List (Int×Int)} (h:e.cs=[.mp kv]):(e.frz id len cs).cs =[.mp kv]:=by
 obtain⟨i,r,ds,_ | _⟩:=e
 ·simp only at h;subst h;rfl
 ·exact h
theorem As.frz_row (id:Ah) (len:Nat) (cs:List C) (e:As):(e.frz id len cs).row =e.row:=by obtain⟨i,r,cs,_ | _⟩:=e<;>rfl
def St.freeze (st:St) (id:Ah):St:=
 match st.look id with
 | some e=>match e.row with
   | some (_,_,len)=>if !e.pu then st else
    {tm:=st.tm.map (Iz id len e.cs),so:=(st.so.filter (fun d=>d.id != id)).map (As.frz id len e.cs),gh:=IA id len e.cs st.gh,pre:=st.pre}
   | none=>st
 | none=>st
section
variable {F:Fr} {w:World} {G:Ay} {id:Ah} {len:Nat} {cs:List C}
structure l8 (F:Fr) (w:World) (G:Ay) (id:Ah) (len:Nat) (cs:List C):Prop where
 own: ∀ v,G.own id=some v→Ad w (BS F G id none none) (.sl len cs) v
 keeps:B3 G (BS F G id none none) w w
theorem WM (hf:l8 F w G id len cs) {c:C} {v:Value} (h:Ad w G c v):Ad w (BS F G id none none) (HG id len cs c) v:=by
 have hm: ∀ d:C,d.men id=false→Ad w G d v→Ad w (BS F G id none none) d v:=fun d hd hr=>
  Ad.mono hf.keeps d v (CP (fun i hi he=>by subst he;rw [hd]at hi;cases hi)) hr
 cases c with
 | osl i=>
   simp only [HG]
   split
   ·rename_i hi;subst hi;simp only [Ad]at h;exact hf.own v h.1
   ·rename_i hi;exact hm _ (by simpa [C.men] using hi) h
 | ptr i o=>
   simp only [HG]
   split
   ·simp only [Ad];exact h.one
   ·rename_i hi;exact hm _ (by simpa [C.men] using hi) h
 | bsl i o n=>
   simp only [HG]
   split
   ·simp only [Ad];exact h.one
   ·rename_i hi;exact hm _ (by simpa [C.men] using hi) h
 | rsl i N o n=>
   simp only [HG]
   split
   ·simp only [Ad];exact h.one
   ·rename_i hi;exact hm _ (by simpa [C.men] using hi) h
 | bld i T=>
   simp only [HG]
   split
   ·simp only [Ad];exact h.one
   ·rename_i hi;exact hm _ (by simpa [C.men] using hi) h
 | sl l ds=>exact hm (.sl l ds) (by simp [C.men]) h
 | iptr ds o=>exact hm (.iptr ds o) (by simp [C.men]) h
 | int k n=>exact hm (.int k n) (by simp [C.men]) h
 | bool b=>exact hm (.bool b) (by simp [C.men]) h
 | str s=>exact hm (.str s) (by simp [C.men]) h
 | nilp=>exact hm (.nilp) (by simp [C.men]) h
 | niface=>exact hm (.niface) (by simp [C.men]) h
 | nils=>exact hm (.nils) (by simp [C.men]) h
 | fn f=>exact hm (.fn f) (by simp [C.men]) h
 | clo f ds=>
   simp only [HG]
   split
   ·simp only [Ad];exact h.one
   ·rename_i hi;exact hm _ (by simpa [C.men] using hi) h
 | bmv f ds=>
   simp only [HG]
   split
   ·simp only [Ad];exact h.one
   ·rename_i hi;exact hm _ (by simpa [C.men] using hi) h
 | held=>exact hm (.held) (by simp [C.men]) h
 | any=>exact hm (.any) (by simp [C.men]) h
 | mref i=>
   simp only [HG]
   split
   ·simp only [Ad];exact h.one
   ·rename_i hi;exact hm _ (by simpa [C.men] using hi) h
 | mp kv=>exact hm (.mp kv) (by simp [C.men]) h
 | gptr g o=>exact hm (.gptr g o) (by simp [C.men]) h
 | isl E n l ds=>exact hm (.isl E n l ds) (by simp [C.men]) h
theorem Qr (hf:l8 F w G id len cs): ∀ {ds:List C} {vs:List Value},Ai w G ds vs→Ai w (BS F G id none none) (ds.map (HG id len cs)) vs
 | [],[],_=>by simp [Ai]
 | [],_::_,h=>by simp [Ai]at h
 | _::_,[],h=>by simp [Ai]at h
 | c::ds,v::vs,h=>by
   simp only [Ai]at h
   simp only [List.map_cons,Ai]
   exact⟨WM hf h.1,Qr hf h.2⟩
mutual
theorem Qs (hf:l8 F w G id len cs): ∀ (x:V) (v:Value),Ab w G x v→Ab w (BS F G id none none) (Iz id len cs x) v
 | .c x,v,h=>by simp only [Ab,Iz]at h ⊢;exact WM hf h
 | .agg ds,v,h=>by
   simp only [Ab,Iz]at h ⊢
   obtain⟨arr,e,hr⟩:=h
   exact⟨arr,e,Qr hf hr⟩
 | .tup vs,v,h=>by
   simp only [Ab,Iz]at h ⊢
   obtain⟨arr,e,hr⟩:=h
   exact⟨arr,e,Ng hf vs _ hr⟩
 | .g b x,v,h=>by
   simp only [Ab,Iz]at h ⊢
   split
   ·rename_i hb;rw [if_pos hb]at h;exact Qs hf x v h
   ·rename_i hb;rw [if_neg hb]at h;exact h
 | .undef,_,_=>by simp only [Ab,Iz]
theorem Ng (hf:l8 F w G id len cs): ∀ (xs:List V) (vs:List Value),Ap w G xs vs→Ap w (BS F G id none none) (IA id len cs xs) vs
 | [],_,h=>by simpa only [Ap,IA] using h
 | x::xs,vs,h=>by
   simp only [Ap,IA]at h ⊢
   obtain⟨v,r,e,h1,h2⟩:=h
   exact⟨v,r,e,Qs hf x v h1,Ng hf xs r h2⟩
end
end
theorem R.frz {F:Fr} {st:St} {a:Act} {w:World} {G:Ay} (h:R F st a w G) {id:Ah} {e:As} (he:st.look id=some e) {E n len:Nat} (hrow:e.row=some (E,n,len)) (hpu:Ao e.cs=true):
 l8 F w G id len e.cs where
 keeps:=h.keeps id none none (Nat.le_refl _) (fun _ _ _=>rfl) (fun b hb=>by cases hb)
 own:=by
  intro v hv
  obtain⟨hm,hid⟩:=A0 he
  have hE:=h.store e hm
  unfold AX at hE
  rw [hrow]at hE
  obtain⟨hl,v',h1,h2⟩:=hE
  rw [hid,hv]at h1
  injection h1 with h1;subst h1
  have hmen:=AG id e.cs hpu
  simp only [Ad]
  refine⟨hpu,?_⟩
  rcases h2 with ⟨p,rfl,h0,_⟩ | ⟨b,cap,cur,rfl,e2,e3,e4,e5,e6,e7⟩
  ·refine⟨p,0,by rw [h0],by omega,by simp [maxLen],fun _=>?_, .inl h0⟩
   cases hc:e.cs with
   | nil=>rfl
   | cons c cs=>rw [hc,h0]at hl;simp at hl
  ·rw [hid]at e2
   refine⟨_,cap,rfl,e4,e5,fun h0=>?_, .inr ⟨b,0,rfl,?_,h.lt id b e2,?_⟩⟩
   ·cases hc:e.cs with
    | nil=>rfl
    | cons c cs=>rw [hc,h0]at hl;simp at hl
   ·simp only [BS]
    rintro(q | ⟨i,q⟩)
    ·rcases h.new id b e2 with q2 | q2
     ·have:=h.avlt b q;omega
     ·exact h.avold b q2 q
    ·split at q
     ·cases q
     ·rename_i hi;exact hi (h.inj i id b q e2)
   ·have hk:=h.keeps id none none (Nat.le_refl _) (fun _ _ _=>rfl) (fun b hb=>by cases hb)
    exact Ak.mono hk _ _ _ (CP (fun i hi he'=>by subst he';rw [hmen]at hi;cases hi)) (fun _=>rfl) e7
def St.okFrz (st:St) (id:Ah):Bool:=
 match st.look id with
 | some e=>match e.row with
   | some _=>e.pu
   | none=>false
 | none=>false
theorem R.freeze {F:Fr} {st:St} {a:Act} {w:World} {G:Ay} (h:R F st a w G) (id:Ah):
 ∃ G',R F (st.freeze id) a w G'∧(∀ b,G'.wr b→G.wr b)∧(st.okFrz id=true→ ∀ b,G.blk id=some b→ ¬G'.wr b):=by
 have hid: ∀ b,G.wr b→G.wr b:=fun _ q=>q
 unfold St.freeze
 split
 ·rename_i e he
  split
  ·rename_i E n len hrow
   split
   ·rename_i hmen
    exact⟨G,h,hid,fun hok=>by simp [St.okFrz,he,hrow]at hok;simp [hok]at hmen⟩
   ·rename_i hmen
    have hm0:=(A0 he).1
    have hf:=h.frz he hrow (h.pures e hm0 (by simpa using hmen))
    refine⟨BS F G id none none,h.rename id none none ⟨rfl,rfl,rfl⟩ (Nat.le_refl _) (fun _ _ _=>rfl) (fun b hb=>by cases hb) _ (by simp) ?_ ?_ ?_ ?_ ?_ ?_,?_,?_⟩
    rotate_right 2
    ·intro b hb
     simp only [BS]at hb
     rw [h.wr]
     rcases hb with hb | ⟨i,hb⟩
     ·exact .inl hb
     ·split at hb
      ·cases hb
      ·exact .inr ⟨i,hb⟩
    ·intro _ b hb hw
     simp only [BS]at hw
     rcases hw with q | ⟨i,q⟩
     ·rcases h.new id b hb with q2 | q2
      ·have:=h.avlt b q;omega
      ·exact h.avold b q2 q
     ·split at q
      ·cases q
      ·rename_i hi;exact hi (h.inj i id b q hb)
    ·intro i
     simp only
     rw [EE (st:=st) (by simp [Iz])]
     exact Qs hf _ _ (h.slots i)
    ·exact Ng hf _ _ h.ghosts
    ·intro d hd
     simp only [List.mem_map,List.mem_filter]at hd
     obtain⟨d',⟨hd',hne⟩,rfl⟩:=hd
     have:=h.pures d' hd'
     obtain⟨i,r,ds,pu⟩:=d'
     cases pu with
     | true=>exact this
     | false=>intro hq;cases hq
    ·intro d hd
     simp only [List.mem_map,List.mem_filter]at hd
     obtain⟨d',⟨hd',hne⟩,rfl⟩:=hd
     have hne':d'.id ≠ id:=by simpa using hne
     have hE:=h.store d' hd'
     have hpd:=h.pures d' hd'
     have hrow: ∀ {b o},Ak w G d'.cs b o→Ak w (BS F G id none none) (d'.frz id len e.cs).cs b o:=fun hr=>by
      obtain⟨vs,q1,q2⟩:=hr.list
      obtain⟨i,r,ds,pu⟩:=d'
      cases pu with
      | true=>exact Ak.mono hf.keeps _ _ _ (CP (fun j hj he=>by subst he;have hj':BE j ds=true:=hj;rw [AG j ds (hpd rfl)]at hj';cases hj')) (fun _=>rfl) hr
      | false=>exact Ak.of_list (Qr hf q1) q2
     have hlen:(d'.frz id len e.cs).cs.length =d'.cs.length:=by obtain⟨i,r,ds,_ | _⟩:=d'<;>simp [As.frz]
     have hfi:=As.frz_id id len e.cs d'
     have hfr:=As.frz_row id len e.cs d'
     unfold AX at hE ⊢
     rw [hfr]
     have eb:(BS F G id none none).blk d'.id=G.blk d'.id:=by simp [BS,hne']
     have eo:(BS F G id none none).own d'.id=G.own d'.id:=by simp [BS,hne']
     rw [hfi,eb,eo]
     split at hE
     ·obtain⟨b,q1,q2⟩:=hE
      refine⟨b,q1,?_⟩
      rcases q2 with ⟨kv,es,q2,q3⟩ | ⟨T,cur,q2,q3,q4⟩
      ·exact .inl ⟨kv,es,As.frz_mp q2,q3⟩
      ·exact .inr ⟨T,cur,q2,by rw [hlen];exact q3,hrow q4⟩
     ·obtain⟨hl,v,q1,q2⟩:=hE
      refine⟨by rw [hlen];exact hl,v,q1,?_⟩
      rcases q2 with q2 | ⟨b,cap,cur,e1,e2,e3,e4,e5,e6,e7⟩
      ·exact .inl q2
      ·exact .inr ⟨b,cap,cur,e1,e2,e3,e4,e5,e6,hrow e7⟩
    ·intro d hd
     simp only [List.mem_map,List.mem_filter]at hd
     obtain⟨d',⟨hd',hne⟩,rfl⟩:=hd
     have hne':d'.id ≠ id:=by simpa using hne
     have hmk: ∀ k,BH k d'.id ≠ id:=fun k q=>by
      have h2:=(h.deep e hm0).1
      rw [(A0 he).2, ←q]at h2
      cases h2
     have hD:Bi w G (d'.frz id len e.cs):=by
      have h1:=h.deep d' hd'
      obtain⟨i,r,ds,pu⟩:=d'
      cases pu with
      | true=>exact h1
      | false=>exact⟨h1.1,fun hq=>absurd (h1.2 hq).1 (by simp)⟩
     have hfi:=As.frz_id id len e.cs d'
     exact Bi.mono hf.keeps (by rw [hfi];simp [BS,hne']) (fun _ k=>by rw [hfi];simp [BS,hmk k]) (fun _ _=>rfl) (fun _ _ _ _=>rfl) hD
    ·have:(((st.so.filter (fun d=>d.id != id)).map (As.frz id len e.cs)).map (·.id))=(st.so.filter (fun d=>d.id != id)).map (·.id):=by
      simp [List.map_map,Function.comp_def,As.frz_id]
     simp only
     rw [this]
     exact List.Sublist.nodup (List.Sublist.map (fun d:As=>d.id) List.filter_sublist) h.nodup
  ·rename_i hrow
   exact⟨G,h,hid,fun hok=>by simp [St.okFrz,he,hrow]at hok⟩
 ·rename_i he
  exact⟨G,h,hid,fun hok=>by simp [St.okFrz,he]at hok⟩
end Go.PL
namespace Go.PL
open Go Go.RowKit
theorem Oi {w:World} {G:Ay}: ∀ {cs:List C} {vs:List Value},cs.length=vs.length→(∀ (i:Nat) (c:C) (v:Value),cs[i]? =some c→vs[i]? =some v→Ad w G c v)→Ai w G cs vs
 | [],[],_,_=>by simp [Ai]
 | [],_::_,h,_=>by simp at h
 | _::_,[],h,_=>by simp at h
 | c::cs,v::vs,h,hr=>by
   simp only [Ai]
   exact⟨hr 0 c v (by simp) (by simp),Oi (by simpa using h) (fun i c' v' h1 h2=>hr (i+1) c' v' (by simpa using h1) (by simpa using h2))⟩
def B0 (z:List C) (k:Nat):List C:=(List.range (k*z.length)).map (fun i=>z.getD (i % z.length) .any)
theorem Kv {w:World} {G:Ay} {z:List C} {zv:Array Value} (h:Ai w G z zv.toList) (hz:0<z.length) (k:Nat):
 Ai w G (B0 z k) ((Array.range (k*zv.size)).map (zv[· % zv.size]!)).toList :=by
 have hl:z.length=zv.size:=by simpa using h.length
 refine Oi (by simp [B0,hl]) (fun i c v h1 h2=>?_)
 simp only [B0,List.getElem?_map]at h1
 simp only [Array.toList_map,List.getElem?_map,Array.toList_range]at h2
 by_cases hi:i<k*z.length
 ·rw [List.getElem?_range (by omega)]at h1
  rw [List.getElem?_range (by rw [←hl];omega)]at h2
  simp only [Option.map_some,Option.some.injEq]at h1 h2
  have hm:i % z.length<z.length:=Nat.mod_lt _ hz
  obtain⟨v',q1,q2⟩:=h.get (i % z.length) z[i % z.length] (by simp [hm])
  have e1:c=z[i % z.length]:=by rw [←h1];simp [List.getD_eq_getElem?_getD,hm]
  have e2:v=v':=by
   rw [←h2, ←hl]
   have:zv[i % z.length]? =some v':=by simpa using q1
   simp [Array.getElem!_eq_getD,Array.getD_eq_getD_getElem?,this]
  rw [e1,e2];exact q2
 ·rw [List.getElem?_eq_none (by simp;omega)]at h1
  cases h1
theorem WN: ∀ {v:Value} {c:C},D7 v=some c→c.pure=true:=by
 intro v c h
 unfold D7 at h
 split at h<;>first | (cases h;done) | (injection h with h;subst h;rfl)
theorem Oj: ∀ {vs:List Value} {cs:List C},Dh vs=some cs→Ao cs=true
 | [],cs,h=>by simp [Dh]at h;subst h;rfl
 | v::vs,cs,h=>by
   unfold Dh at h
   split at h
   ·rename_i c cs' h1 h2
    injection h with h;subst h
    simp only [Ao,WN h1,Oj h2,Bool.and_self]
   ·cases h
theorem Ok {z:List C} (h:Ao z=true) (k:Nat):Ao (B0 z k)=true:=Ks _ (fun _=>bx _ h) _
def Qt:Value→Option C
 | .slice none 0 0=>some .nils
 | v=>D7 v
def GC:List Value→Option (List C)
 | []=>some []
 | v::vs=>match Qt v,GC vs with
   | some c,some cs=>some (c::cs)
   | _,_=>none
theorem WO {w:World} {G:Ay}: ∀ {v:Value} {c:C},Qt v=some c→Ad w G c v:=by
 intro v c h
 unfold Qt at h
 split at h
 ·injection h with h;subst h;simp [Ad]
 ·exact Lg h
theorem HP {w:World} {G:Ay}: ∀ {vs:List Value} {cs:List C},GC vs=some cs→Ai w G cs vs
 | [],cs,h=>by simp [GC]at h;subst h;simp [Ai]
 | v::vs,cs,h=>by
   unfold GC at h
   split at h
   ·rename_i c cs' h1 h2
    injection h with h;subst h
    simp only [Ai]
    exact⟨WO h1,HP h2⟩
   ·cases h
def Qu (P:Program) (t:TypeId):Option (List C):=
 match P.info? t with
 | some i=>match i.zero with
   | some z=>GC z.cells.toList
   | none=>none
 | none=>none
theorem Lp {P:Program} {t:TypeId} {cs:List C} (h:Qu P t=some cs): ∃ i z,P.info? t=some i∧i.zero=some z∧GC z.cells.toList=some cs:=by
 unfold Qu at h
 split at h
 ·rename_i i hi
  split at h
  ·rename_i z hz;exact⟨i,z,hi,hz,h⟩
  ·cases h
 ·cases h
def Fk:C→C
 | .nils => .sl 0 []
 | c=>c
def V.weak:V→V
 | .c x=> .c (Fk x)
 | .agg cs=> .agg (cs.map Fk)
 | v=>v
def Ol (p:Nat×V):Nat×V:=(p.1,p.2.weak)
theorem GO {w:World} {G:Ay} {c:C} {v:Value} (h:Ad w G c v):Ad w G (Fk c) v:=by
 cases c<;>try exact h
 simp only [Ad]at h
 subst h
 simp only [Fk,Ad]
 exact⟨rfl,none,0,rfl,Nat.le_refl _,Nat.zero_le _,fun _=>trivial, .inl trivial⟩
theorem Nh {w:World} {G:Ay}: ∀ {cs:List C} {vs:List Value},Ai w G cs vs→Ai w G (cs.map Fk) vs
 | [],[],_=>by simp [Ai]
 | [],_::_,h=>by simp [Ai]at h
 | _::_,[],h=>by simp [Ai]at h
 | c::cs,v::vs,h=>by
   simp only [Ai]at h
   simp only [List.map_cons,Ai]
   exact⟨GO h.1,Nh h.2⟩
theorem bE {w:World} {G:Ay} {x:V} {v:Value} (h:Ab w G x v):Ab w G x.weak v:=by
 cases x with
 | c x=>simp only [V.weak,Ab]at h ⊢;exact GO h
 | agg cs=>
   simp only [V.weak,Ab]at h ⊢
   obtain⟨arr,e,hr⟩:=h
   exact⟨arr,e,Nh hr⟩
 | tup _=>exact h
 | g _ _=>exact h
 | undef=>exact h
structure oE (P:Program) (F:Fr) (o:Oper) (a:Act) (w:World) (st':St):Prop where
 out: ∃ nx w' G',(execOp a.eval o).run P w= .ok nx w'∧((∃ v,nx= .value v∧R F st' (a.put o.dst v) w' G')∨(nx= .skip ∧R F st' (a.put o.dst Go.undef) w' G'))
def St.parts (st:St) (g:Bool) (ps:List (Nat×Operand)):Prop×List (Nat×V):=
 match ps with
 | []=>(True,[])
 | (i,x)::r=>((st.arg g x).1∧(St.parts st g r).1,(i,(st.arg g x).2)::(St.parts st g r).2)
theorem R.parts {F:Fr} {st:St} {a:Act} {w:World} {G:Ay} (h:R F st a w G) {g:Bool} (hg:g=true): ∀ {ps:List (Nat×Operand)},(st.parts g ps).1→Mg w G (st.parts g ps).2 (ps.map fun(i,x)=>(i,a.eval x))
 | [],_=>by simp [St.parts,Mg]
 | (i,x)::r,hs=>by
   simp only [St.parts]at hs ⊢
   simp only [List.map_cons,Mg]
   exact⟨trivial,h.arg hg hs.1,h.parts hg hs.2⟩
def lS (P:Program) (t:TypeId) (i:Nat):Option (Nat×Nat):=
 match P.underlying t with
 | some (.array _ e)=>match P.info? e with
   | some inf=>some (i*inf.size,inf.size)
   | none=>none
 | some (.struct fs)=>match fs.toList.mapM (fun f=>(P.info? f.type).map fun i=>(f.offset,i.size))with
   | some ps=>ps[i]?
   | none=>none
 | _=>none
def dv (P:Program) (t:TypeId):Bool:=
 match P.underlying t with
 | some (.array _ e)=>(P.info? e).isSome
 | some (.struct fs)=>(fs.toList.mapM (fun f=>(P.info? f.type).map fun i=>(f.offset,i.size))).isSome
 | _=>false
def JT (P:Program) (st:St) (g:Bool) (t:TypeId) (ps:List (Nat×Operand)):Prop×V:=
 match Qu P t with
 | some z=>match G6 (lS P t) z (st.parts g ps).2 with
   | some cs=>((st.parts g ps).1∧dv P t=true, .agg cs)
   | none=>no
 | none=>no
def Mh (st:St) (n:Nat):V→Option (Nat×List C×Bool)
 | .c (.sl m cs)=>if cs.length=m*n then some (m,cs,true)else none
 | .c (.osl id)=>match st.look id with
   | some e=>match e.row with
     | some (_,n',m)=>if n'=n then some (m,e.cs,e.pu)else none
     | none=>none
   | none=>none
 | _=>none
def D8 (P:Program) (t:TypeId):Option (TypeId×Nat×Nat):=
 match P.underlying t with
 | some (.slice e)=>match P.info? e with
   | some i=>match i.zero with
     | some z=>if z.cells.size=i.size then some (e,i.size,i.bytes)else none
     | none=>none
   | none=>none
 | _=>none
def Fs (P:Program) (st:St) (T:TypeId) (x y:V):Prop×St:=
 match x,y.cells,Ir P T with
 | .c (.ptr id off),some cs,some (_,n)=>match st.look id with
   | some e=>(cs.length=n∧off+n≤e.cs.length,st.setCs id (e.cs.take off++cs++e.cs.drop (off+cs.length)) (Ao cs))
   | none=>(False,st)
 | _,_,_=>(False,st)
def EY (P:Program) (st:St) (d:Nat) (t:TypeId) (s x:V):Prop×St:=
 match s,D8 P t with
 | .c (.osl id),some (E,n,by')=>match st.look id,Mh st n x with
   | some e,some (m,cs,q)=>match e.row with
     | some (E',n',len)=>(E'=E∧n'=n∧0<n∧(len+m)*by'≤140737488355328∧len+m≤maxLen,(st.new ⟨id,some (E,n,len+m),e.cs++cs,e.pu&&q⟩).put (some d) (.c (.osl id)))
     | none=>(False,st)
   | _,_=>(False,st)
 | _,_=>(False,st)
def Om (P:Program) (st:St) (d:Nat) (t:TypeId) (x y:V):Prop×St:=
 match x,y,CZ P t with
 | .c (.bsl id off len), .c (.bsl id2 off2 len2),some (_,1)=>match st.look id,st.look id2 with
   | some e,some e2=>(off+Nat.min len2 len≤e.cs.length∧off2+Nat.min len2 len≤e2.cs.length,
    (st.setCs id (e.cs.take off++(e2.cs.drop off2).take (Nat.min len2 len)++e.cs.drop (off+((e2.cs.drop off2).take (Nat.min len2 len)).length)) (Ao ((e2.cs.drop off2).take (Nat.min len2 len)))).put (some d) (.c (.int .i64 (Nat.min len2 len:Nat))))
   | _,_=>(False,st)
 | _,_,_=>(False,st)
def HQ (P:Program) (st:St) (d:Nat) (t:TypeId) (l c:V):Prop×St:=
 match l,c,D8 P t with
 | .c (.int _ l), .c (.int _ c),some (E,n,by')=>match K0 P E with
   | some z=>(0≤l∧l≤c∧c*by'≤140737488355328∧c≤maxLen∧z.length=n∧0<n,(st.new ⟨d::st.pre,some (E,n,l.toNat),B0 z l.toNat,true⟩).put (some d) (.c (.osl (d::st.pre))))
   | none=>(False,st)
 | _,_,_=>(False,st)
def Bh (P:Program) (st:St) (d:Nat) (t:TypeId) (len:Nat) (ps:List (Nat×Operand)):Prop×St:=
 match D8 P t with
 | some (E,n,_)=>match K0 P E with
   | some z=>match G6 (fun i=>some (i*n,n)) (B0 z len) ((st.parts true ps).2.map Ol)with
     | some cs=>((st.parts true ps).1∧z.length=n∧0<n∧len*n≤2 ^ 24,(st.new ⟨d::st.pre,some (E,n,len),cs,Ao cs⟩).put (some d) (.c (.osl (d::st.pre))))
     | none=>(False,st)
   | none=>(False,st)
 | none=>(False,st)
def YG:Operand→V→V
 | .const (.slice none 0 0),_=> .c .nils
 | _,v=>v
def Pl (st:St) (x v:V):V:=
 match v with
 | .c .nils =>match x with
   | .c (.ptr id _)=>match st.look id with
     | some e=>match e.row with
       | some _=> .c (.sl 0 [])
       | none=>v
     | none=>v
   | _=>v
 | _=>v
theorem WP {w:World} {G:Ay} {st:St} {x v:V} {u:Value} (h:Ab w G v u):Ab w G (Pl st x v) u:=by
 unfold Pl
 split
 ·have h2:Ab w G (.c (.sl 0 [])) u:=by
   simp only [Ab]at h ⊢
   exact GO h
  split
  ·split
   ·split
    ·exact h2
    ·exact h
   ·exact h
  ·exact h
 ·exact h
theorem WQ {w:World} {G:Ay} {a:Act} {y:Operand} {v:V} (h:Ab w G v (a.eval y)):Ab w G (YG y v) (a.eval y):=by
 unfold YG
 split
 ·simp only [Ab,Ad];rfl
 ·exact h
def ef (P:Program) (st:St) (o:Oper):Prop×St:=
 match o.op with
 | .store T x y=>let r:=Fs P st T (st.arg true x).2 (Pl st (st.arg true x).2 (YG y (st.arg true y).2))
   ((st.arg true x).1∧(st.arg true y).1∧r.1,r.2.put o.dst .undef)
 | op=>match o.dst with
   | none=>(False,st)
   | some d=>match op with
     | .alloc T=>match Qu P T with
       | some cs=>(True,(st.new ⟨d::st.pre,none,cs,false⟩).put (some d) (.c (.ptr (d::st.pre) 0)))
       | none=>(False,st)
     | .box T x=>match (st.arg true x).2.cells with
       | some cs=>((st.arg true x).1∧T=T,(st.new ⟨d::st.pre,none,cs,false⟩).put (some d) (.c (.ptr (d::st.pre) 0)))
       | none=>(False,st)
     | .assign (.const (.slice none 0 0))=>match CZ P o.type with
       | some (E,n)=>(True,(st.new ⟨d::st.pre,some (E,n,0),[],true⟩).put (some d) (.c (.osl (d::st.pre))))
       | none=>(False,st)
     | .buildSlice t len ps=>Bh P st d t len ps.toList
     | .makeSlice t l c=>let r:=HQ P st d t (st.arg true l).2 (st.arg true c).2
       ((st.arg true l).1∧(st.arg true c).1∧r.1,r.2)
     | .call c=>match c.callee,c.args.toList,c.argTypes.toList with
       | .builtin .append,[s,x],[t,t']=>let r:=EY P st d t (st.arg true s).2 (st.arg true x).2
         ((st.arg true s).1∧(st.arg true x).1∧t=t'∧r.1,r.2)
       | .builtin .copy,[s,x],[t,t']=>let r:=Om P st d t (st.arg true s).2 (st.arg true x).2
         ((st.arg true s).1∧(st.arg true x).1∧t'=t'∧r.1,r.2)
       | _,_,_=>(False,st)
     | _=>(False,st)
theorem Ni {w:World} {G:Ay}: ∀ {xs:List (Nat×V)} {ys:List (Nat×Value)},Mg w G xs ys→Mg w G (xs.map Ol) ys
 | [],[],h=>h
 | (i,x)::xs,(j,v)::ys,h=>by
   simp only [Mg]at h
   simp only [List.map_cons,Ol,Mg]
   exact⟨h.1,bE h.2.1,Ni h.2.2⟩
 | [],_::_,h=>by simp [Mg]at h
 | _::_,[],h=>by simp [Mg]at h
theorem Vt {P:Program} {F:Fr} {st:St} {a:Act} {w:World} {G:Ay} (h:R F st a w G) {g:Bool} (hg:g=true) {t:TypeId} {ps:Array (Nat×Operand)} (hs:(JT P st g t ps.toList).1):
 ∃ v,Ab w G (JT P st g t ps.toList).2 v∧ ∀ w',(Instr.build t (ps.map fun(i,x)=>(i,a.eval x))).run P w'= .ok v w':=by
 unfold JT at *
 split at hs
 ·rename_i z hz
  split at hs
  ·rename_i cs hf
   obtain⟨i,zv,hi,hzv,hc⟩:=Lp hz
   obtain⟨arr',q1,q2⟩:=I4 hf (h.parts hg hs.1) (HP (w:=w) (G:=G) hc)
   refine⟨.agg arr',⟨arr',rfl,q2⟩,fun w'=>run_build w' t _ arr' ?_⟩
   have hok:=hs.2
   unfold dv at hok
   unfold Program.built
   rw [hi]
   split at hok
   ·rename_i n e hu
    cases hie:P.info? e with
    | none=>rw [hie]at hok;cases hok
    | some ie=>
      simp only [hu,hzv,hie]
      have e1:lS P t=fun i=>some (i*ie.size,ie.size):=by
       funext i;unfold lS;rw [hu];simp [hie]
      rw [e1]at q1
      simpa using q1
   ·rename_i fs hu
    cases hm:fs.toList.mapM (fun f=>(P.info? f.type).map fun i=>(f.offset,i.size))with
    | none=>rw [hm]at hok;cases hok
    | some pl=>
      simp only [hu,hzv,hm]
      have e1:lS P t=fun i=>pl[i]? :=by
       funext i;unfold lS;rw [hu];simp [hm]
      rw [e1]at q1
      simpa using q1
   ·cases hok
  ·exact hs.elim
 ·exact hs.elim
theorem EG {P:Program} {t e:TypeId} {n by':Nat} (h:D8 P t=some (e,n,by')):
 ∃ i z,P.underlying t=some (.slice e)∧P.info? e=some i∧i.zero=some z∧i.size=n∧i.bytes=by'∧z.cells.size=n:=by
 unfold D8 at h
 split at h
 ·rename_i e' hu
  split at h
  ·rename_i i hi
   split at h
   ·rename_i z hz
    split at h
    ·rename_i hsz
     simp only [Option.some.injEq,Prod.mk.injEq]at h
     obtain⟨rfl,rfl,rfl⟩:=h
     exact⟨i,z,hu,hi,hz,rfl,rfl,hsz⟩
    ·cases h
   ·cases h
  ·cases h
 ·cases h
theorem Mi {P:Program} {F:Fr} {st:St} {a:Act} {w:World} {G:Ay} (h:R F st a w G) {T:TypeId} {x y:V} {u v:Value} (hx:Ab w G x u) (hy:Ab w G y v) (hs:(Fs P st T x y).1):
 ∃ w',(Instr.storeAt T u v).run P w= .ok () w'∧R F (Fs P st T x y).2 a w' G:=by
 unfold Fs at *
 split at hs
 ·rename_i id off cs ag n hc ht
  split at hs
  ·rename_i e he
   obtain⟨h1,h2⟩:=hs
   obtain⟨d,i,hu,hd,hi,hsz⟩:=C8 ht
   simp only [Ab,Ad]at hx
   obtain⟨b,hb,rfl⟩:=hx
   have hv:=G4 hy hc
   have hlv:=hv.length
   obtain⟨cur,T',hheap,hfit,hR⟩:=h.stored he hb (off:=off) (xs:=cs) hv (by omega)
   refine⟨_,?_,hR⟩
   have hst:=run_storeCells_at P b off T' v.cells.toList 0 cur w hheap (by simpa using hfit) (Ai.one hv)
   simp only [Nat.add_zero]at hst
   have hne: ¬v.cells.size ≠ i.size:=by simp at hlv ⊢;omega
   simp [Instr.storeAt,Instr.sureAddr,storeVar,sizeOf,typeInfo,program,Sem.run,hi,Sem.run_bind,hst]
   simp at hlv
   omega
  ·exact hs.elim
 ·exact hs.elim
theorem WR {F:Fr} {st:St} {a:Act} {w:World} {G:Ay} (h:R F st a w G) {n m:Nat} {x:V} {cs:List C} {q:Bool} {u:Value} (hs:Mh st n x=some (m,cs,q)) (hx:Ab w G x u):
 (q=true→Ao cs=true)∧ ∃ ad cap vs,u= .slice ad m cap∧Ai w G cs vs∧vs.length=m*n∧(ad=none→m=0)∧ ∀ b,ad=some b→ ∀ j v,vs[j]? =some v→w.cell? (b.add j)=some v:=by
 unfold Mh at hs
 split at hs
 ·split at hs
  ·rename_i hl
   simp only [Option.some.injEq,Prod.mk.injEq]at hs
   obtain⟨rfl,rfl,rfl⟩:=hs
   simp only [Ab,Ad]at hx
   refine⟨fun _=>hx.1,?_⟩
   obtain⟨_,ad,cap,rfl,_,_,h0,h1 | ⟨b,o,rfl,_,_,hr⟩⟩:=hx
   ·have:=h0 h1;subst this
    exact⟨ad,cap,[],rfl,by simp [Ai],by rw [h1];simp,fun _=>h1,fun b _ j v hv=>by simp at hv⟩
   ·obtain⟨vs,q1,q2⟩:=hr.list
    have:=q1.length
    exact⟨_,cap,vs,rfl,q1,by omega,(by simp),fun b' hb' j v hv=>by injection hb' with hb';subst hb';rw [Addr.add_mid];exact q2 j v hv⟩
  ·cases hs
 ·split at hs
  ·rename_i e hlk
   split at hs
   ·rename_i E n' m' hrow
    split at hs
    ·rename_i hn
     simp only [Option.some.injEq,Prod.mk.injEq]at hs
     obtain⟨rfl,rfl,rfl⟩:=hs
     obtain⟨hm,hid⟩:=A0 hlk
     refine⟨h.pures e hm,?_⟩
     have hE:=h.store e hm
     obtain⟨v,vs,k1,k2,k3,k4⟩:=EF hrow hE
     simp only [Ab,Ad]at hx
     rw [hid]at k1
     rw [k1]at hx
     obtain⟨hx,_⟩:=hx
     injection hx with hx;subst hx
     rcases k4 with ⟨k4,k5⟩ | ⟨p,rfl,q0,rfl,_⟩
     rotate_left
     ·exact⟨_,_,[],by rw [q0],k3,by rw [q0];simp,(by simp),fun b _ j v hv=>by simp at hv⟩
     rcases k4.2 with ⟨q,q0⟩ | ⟨g,cap,cur,q,_⟩
     ·have:vs=[]:=by
       have:=k4.1;rw [q0]at this;simpa using this
      subst this
      exact⟨none,0,[],by rw [q,q0],k3,by rw [q0];simp,fun _=>q0,fun b hb=>by cases hb⟩
     ·refine⟨_,cap,vs,q,k3,by rw [k4.1,hn],(by simp),fun b hb j v hv=>?_⟩
      injection hb with hb;subst hb
      exact k4.cells (by rw [q];rfl) j v hv
    ·cases hs
   ·cases hs
  ·cases hs
 ·cases hs
theorem S7 {P:Program} {F:Fr} {st:St} {a:Act} {w:World} {G:Ay} (h:R F st a w G) {d:Nat} {t ty:TypeId} {s x:V} {u v:Value} (hx:Ab w G s u) (hy:Ab w G x v) (hs:(EY P st d t s x).1):
 ∃ r w' G',(Builtin.append_ #[t,t] ty #[u,v]).run P w= .ok r w'∧R F (EY P st d t s x).2 (a.put (some d) r) w' G':=by
 unfold EY at *
 split at hs
 ·rename_i id E n by' hsel
  split at hs
  ·rename_i e m cs q hlk hsrc
   split at hs
   ·rename_i E' n' len hrow
    obtain⟨rfl,rfl,hn0,hbytes,hmax⟩:=hs
    obtain⟨i,z,hu,hi,hz,hsz,hby,hzs⟩:=EG hsel
    obtain⟨hm,hid⟩:=A0 hlk
    obtain⟨u',xs,k1,k2,k3,k4⟩:=EF hrow (h.store e hm)
    simp only [Ab,Ad]at hx
    rw [hid]at k1
    rw [k1]at hx
    obtain⟨hx,_⟩:=hx
    injection hx with hx;subst hx
    obtain⟨hqp,ad,cap,us,rfl,q1,q2,q3,q4⟩:=WR h hsrc hy
    rcases k4 with ⟨k4,k5⟩ | ⟨p,rfl,rfl,rfl,k5⟩
    rotate_left
    ·rw [hid]at k5
     have hcs:e.cs=[]:=List.length_eq_zero_iff.1 (by simpa using k3.length)
     by_cases hm0:m=0
     ·subst hm0
      have hus:us=[]:=by simpa using q2
      subst hus
      have hc0:cs=[]:=List.length_eq_zero_iff.1 (by simpa using q1.length)
      subst hc0
      have hrun:(Builtin.append_ #[t,t] ty #[.slice (some p) 0 0, .slice ad 0 cap]).run P w= .ok (.slice (some p) 0 0) w:=by
       cases ad<;>simp [Builtin.append_,run_underlying hu,sizeOf,typeInfo,program,Sem.run,hi,Builtin.lenOf,Builtin.firstCells,storeCells,loadCells,loadCellsFrom]
      obtain⟨G',g1,g2⟩:=h.appended0 (id:=id) (e:=e) (E:=E') (n:=n') (p:=p) (e.pu&&q) hcs
      refine⟨_,w,G',hrun,?_⟩
      exact R.put (d:=some d) g1 (show Ab w G' (V.c (C.osl id)) (.slice (some p) 0 0) by simp only [Ab,Ad];exact⟨g2,rfl⟩)
     ·obtain⟨b,rfl⟩: ∃ b,ad=some b:=by
       cases ad with
       | none=>exact absurd (q3 rfl) hm0
       | some b=>exact⟨b,rfl⟩
      obtain⟨r,w',hrun,hown,hg,hfr⟩:=JA (P:=P) (w:=w) t ty E' i z n' by' hu hi hz hsz hby hzs hn0 p b m cap us q2 (q4 b rfl) (by omega) (by omega) (by simpa using hbytes)
      obtain⟨G',g1,g2,g3⟩:=h.appended (len:=0) (v:= .slice none 0 0) (xs:=[]) hlk hqp k5.symm k3 q1 ⟨by simp, .inl ⟨rfl,rfl⟩⟩ (by simpa using hown) hg (.inr hfr)
      refine⟨r,w',G',hrun,?_⟩
      exact R.put (d:=some d) g1 (show Ab w' G' (V.c (C.osl id)) r by simp only [Ab,Ad];exact⟨g2,g3⟩)
    rw [hid]at k5
    have main: ∀ r w',(Builtin.append_ #[t,t] ty #[u', .slice ad m cap]).run P w= .ok r w'→w'.ownsRow 0 E' n' r (len+m) (xs++us)→w.grownBy w' u'.ownBlock→(r.ownBlock=u'.ownBlock∨ ∀ b,r.ownBlock=some b→w.heap.size≤b)→
     ∃ r w' G',(Builtin.append_ #[t,t] ty #[u', .slice ad m cap]).run P w= .ok r w'∧R F ((st.new ⟨id,some (E',n',len+m),e.cs++cs,e.pu&&q⟩).put (some d) (.c (.osl id))) (a.put (some d) r) w' G':=by
     intro r w' hrun hown hg hfr
     obtain⟨G',g1,g2,g3⟩:=h.appended hlk hqp k5 k3 q1 k4 hown hg hfr
     exact⟨r,w',G',hrun,g1.put (by simp only [Ab,Ad];exact⟨g2,g3⟩)⟩
    cases ad with
    | some b=>
      obtain⟨r,w',hrun,hown,hg,hfr⟩:=Jz (P:=P) (w:=w) t ty E' i z n' by' hu hi hz hsz hby hzs hn0 u' len xs k4 b m cap us q2 (q4 b rfl) (Ai.one q1) hmax hbytes
      exact main r w' hrun hown hg hfr
    | none=>
      have hm0:=q3 rfl
      subst hm0
      have hus:us=[]:=by simpa using q2
      subst hus
      refine main u' w ?_ (by simpa using k4) ⟨rfl,rfl,rfl,Nat.le_refl _,fun _ _ _=>rfl⟩ (.inl rfl)
      have hcap: ∃ bs c,u'= .slice bs len c∧len≤c∧(∀ b,bs=some b→b.spot=none):=by
       rcases k4.2 with ⟨q,q0⟩ | ⟨g,c,cur,q,_,_,q5,_⟩
       ·exact⟨none,0,by rw [q,q0],by omega,by simp⟩
       ·exact⟨_,c,q,q5,by intro b hb;injection hb with hb;subst hb;rfl⟩
      obtain⟨bs,c,rfl,hc,_⟩:=hcap
      cases bs<;>simp [Builtin.append_,run_underlying hu,sizeOf,typeInfo,program,Sem.run,hi,Builtin.lenOf,Builtin.firstCells,hc,storeCells]
   ·exact hs.elim
  ·exact hs.elim
 ·exact hs.elim
theorem WS {P:Program} {F:Fr} {st:St} {a:Act} {w:World} {G:Ay} (h:R F st a w G) {d:Nat} {t t' ty:TypeId} {x y:V} {u v:Value} (hx:Ab w G x u) (hy:Ab w G y v) (hs:(Om P st d t x y).1):
 ∃ r w' G',(Builtin.copy_ #[t,t'] ty #[u,v]).run P w= .ok r w'∧R F (Om P st d t x y).2 (a.put (some d) r) w' G':=by
 unfold Om at *
 split at hs
 ·rename_i id off len id2 off2 len2 E hsel
  split at hs
  ·rename_i e e2 he he2
   obtain⟨q1,q2⟩:=hs
   obtain⟨hu,inf,hi,hsz⟩:=Dp hsel
   simp only [Ab,Ad]at hx hy
   obtain⟨b,cap,o,hb,rfl,_,ho1,ho⟩:=hx
   obtain⟨b2,cap2,o2,hb2,rfl,_,_,ho2⟩:=hy
   obtain⟨hm2,hid2⟩:=A0 he2
   obtain⟨cur2,T2,_,_,hrow2⟩:=(h.store e2 hm2).row (PW he2) (by rw [hid2];exact hb2)
   obtain⟨vs,k1,k2⟩:=((hrow2.drop off2).take (Nat.min len2 len)).list
   have hlx:=k1.length
   have hl:((e2.cs.drop off2).take (Nat.min len2 len)).length =Nat.min len2 len:=by
    rw [List.length_take,List.length_drop];exact Nat.min_eq_left (by omega)
   obtain⟨cur,T',hheap,hfit,hR⟩:=h.stored he hb (off:=off) k1 (by rw [hl];exact q1)
   have hw:w.setRow b (cur.toList.take o++vs++cur.toList.drop (o+vs.length)).toArray =w.setRow b (cur.toList.take off++vs++cur.toList.drop (off+vs.length)).toArray :=by
    by_cases hz:vs.length=0
    ·have:=List.length_eq_zero_iff.1 hz
     subst this
     simp
    ·have e:o=off:=ho.resolve_left (fun q=>hz (by rw [←hlx,hl,q];exact Nat.min_eq_right (Nat.zero_le _)))
     rw [e]
   have hrun:=run_copy_row (P:=P) w t t' ty E b o len cap ⟨b2,o2,none⟩ len2 cap2 cur T' vs hu (by rw [hi];simp [hsz]) hheap (by omega) (fun j v hv=>by
    have hj:j<vs.length:=(List.getElem?_eq_some_iff.1 hv).1
    have e:o2=off2:=ho2.resolve_left (fun q=>by
     have:Nat.min len2 len=0:=by rw [q];exact Nat.min_eq_left (Nat.zero_le _)
     omega)
    subst e
    have:=k2 j v hv
    rw [Addr.add_mid]
    simpa using this) (by omega) (Ai.one k1)
   rw [hw]at hrun
   refine⟨_,_,G,hrun,hR.put (d:=some d) ?_⟩
   simp only [Ab,Ad,goInt]
   rw [←hlx,hl]
  ·exact hs.elim
 ·exact hs.elim
theorem Vu {F:Fr} {w:World} {G:Ay} {id:Ah} {b:Option Nat} {v:Value} (h:v.oneCell'=true):Ab w (BS F G id b (some v)) (.c (.osl id)) v:=by
 simp [Ab,Ad,BS,h]
theorem run_buildSlice' {P:Program} {w:World} {t E:TypeId} {i:TypeInfo} {zv:Value} {n len:Nat} {ps:Array (Nat×Value)} {arr':Array Value} (hu:P.underlying t=some (.slice E)) (hi:P.info? E=some i) (hz:i.zero=some zv)
 (hsz:i.size=n) (h3:0<n) (h4:len*n≤2 ^ 24) (hf:Instr.fill (fun i=>some (i*n,n)) ((Array.range (len*n)).map (zv.cells[· % zv.cells.size]!)) ps.toList=some arr'):
 (Instr.buildSlice t len ps).run P w= .ok (.slice (some ⟨w.heap.size,0,none⟩) len len) (w.alloc (.cells arr' E)):=by
 have hbig: ¬2 ^ 24<len*n:=by omega
 by_cases h0:len=0
 ·subst h0
  rw [Nat.zero_mul,Array.range_zero']at hf
  simp only [Array.map_empty]at hf
  simp [Instr.buildSlice,run_underlying hu,sizeOf,typeInfo,hi,hsz,hf,newRow,Array.range_zero']
 ·have h1: ¬len*n=0:=by
   rw [Nat.mul_eq_zero];omega
  have h2:n ≠ 0:=by omega
  simp [Instr.buildSlice,run_underlying hu,sizeOf,typeInfo,hi,hsz,hbig,zeroValue,hz,hf,newRow]
  exact fun h=>absurd h h1
theorem Oo {P:Program} {F:Fr} {st:St} {a:Act} {w:World} {G:Ay} (h:R F st a w G) {d:Nat} {t:TypeId} {l c:V} {u v:Value} (hx:Ab w G l u) (hy:Ab w G c v) (hs:(HQ P st d t l c).1):
 ∃ r w' G',(Instr.makeSlice t u v).run P w= .ok r w'∧R F (HQ P st d t l c).2 (a.put (some d) r) w' G':=by
 unfold HQ at *
 split at hs
 ·rename_i k1 l k2 c E n by' hsel
  split at hs
  ·rename_i z hz
   obtain⟨h0,h1,h2,h3,h4,h5⟩:=hs
   obtain⟨i,zv,hu,hi,hzv,hsz,hby,hzs⟩:=EG hsel
   obtain⟨i',zv',hi',hzv',hc⟩:=G5 hz
   rw [hi]at hi';injection hi' with hi';subst hi'
   rw [hzv]at hzv';injection hzv' with hzv';subst hzv'
   simp only [Ab,Ad]at hx hy
   subst hx hy
   have hM:maxLen=9223372036854775807:=rfl
   have hrun:=run_make (P:=P) w t E i zv hu hi hzv k1 k2 l c h0 h1 (by rw [hby,Int.mul_comm];omega) (by omega)
   have hzr:=Kv (Fn (w:=w) (G:=G) hc) (by omega) l.toNat
   rw [hzs]at hzr
   have hle:l.toNat*n≤c.toNat*n:=Nat.mul_le_mul_right _ (by omega)
   have hrow:=h.row (d::st.pre) E n l.toNat c.toNat (B0 z l.toNat) (madeCells zv.cells (c.toNat*i.size)) _ hzr (by
    simp only [madeCells,Array.toList_map,Array.toList_range,List.length_map,List.length_range, ←List.map_take,hzs]
    rw [List.take_range,hsz,Nat.min_eq_left hle]) (by simp [B0,h4]) (by rw [size_madeCells,hsz]) (by omega) (by omega) true (fun _=>Ok (Oj hc) _)
   exact⟨_,_,_,hrun,R.put (d:=some d) hrow (Vu rfl)⟩
  ·exact hs.elim
 ·exact hs.elim
theorem G7 {P:Program} {F:Fr} {st:St} {a:Act} {w:World} {G:Ay} (h:R F st a w G) {t E:TypeId} {len n by':Nat} {ps:Array (Nat×Operand)} {z cs:List C} (hsel:D8 P t=some (E,n,by')) (hz:K0 P E=some z)
 (hf:G6 (fun i=>some (i*n,n)) (B0 z len) ((st.parts true ps.toList).2.map Ol)=some cs) (h1:(st.parts true ps.toList).1) (h2:z.length=n) (h3:0<n) (h4:len*n≤2 ^ 24):
 ∃ arr',(Instr.buildSlice t len (ps.map fun(i,x)=>(i,a.eval x))).run P w= .ok (.slice (some ⟨w.heap.size,0,none⟩) len len) (w.alloc (.cells arr' E))∧Ai w G cs arr'.toList∧cs.length=len*n∧arr'.size=len*n∧len≤maxLen:=by
 obtain⟨i,zv,hu,hi,hzv,hsz,hby,hzs⟩:=EG hsel
 obtain⟨i',zv',hi',hzv',hc⟩:=G5 hz
 rw [hi]at hi';injection hi' with hi';subst hi'
 rw [hzv]at hzv';injection hzv' with hzv';subst hzv'
 have hzr:=Kv (Fn (w:=w) (G:=G) hc) (by omega) len
 obtain⟨arr',q1,q2⟩:=I4 hf (Ni (h.parts rfl h1)) hzr
 have q1':Instr.fill (fun i=>some (i*n,n)) ((Array.range (len*n)).map (zv.cells[· % zv.cells.size]!)) (ps.map fun(i,x)=>(i,a.eval x)).toList =some arr':=by
  rw [hzs]at q1 ⊢;simpa using q1
 have hsize:arr'.size=len*n:=by
  have e1:=q2.length
  have e2:cs.length=(B0 z len).length :=by
   clear hzr q1 q1' q2 e1
   have hz': ∀ (l:List (Nat×V)) (b out:List C),G6 (fun i=>some (i*n,n)) b l=some out→out.length=b.length:=by
    intro l
    induction l with
    | nil=>intro b out ho;simp only [G6,Option.some.injEq]at ho;rw [←ho]
    | cons p l ih=>
      intro b out ho
      obtain⟨i,v⟩:=p
      simp only [G6]at ho
      split at ho
      ·rename_i o s c hp hcs
       split at ho
       ·rename_i hb
        have:=ih _ _ ho
        simp only [List.length_append,List.length_take,List.length_drop]at this
        omega
       ·cases ho
      ·cases ho
   exact hz' _ _ _ hf
  simp [B0,h2]at e2
  simp at e1
  omega
 have hcl:cs.length=len*n:=by have:=q2.length;simp at this;omega
 have hM:maxLen=9223372036854775807:=rfl
 have hlen:len≤maxLen:=by
  have:len*1≤len*n:=Nat.mul_le_mul_left _ h3
  omega
 exact⟨arr',run_buildSlice' hu hi hzv hsz h3 h4 q1',q2,hcl,hsize,hlen⟩
theorem HR {P:Program} {F:Fr} {st:St} {a:Act} {w:World} {G:Ay} (h:R F st a w G) {d:Nat} {t:TypeId} {len:Nat} {ps:Array (Nat×Operand)} (hs:(Bh P st d t len ps.toList).1):
 ∃ r w' G',(Instr.buildSlice t len (ps.map fun(i,x)=>(i,a.eval x))).run P w= .ok r w'∧R F (Bh P st d t len ps.toList).2 (a.put (some d) r) w' G':=by
 unfold Bh at *
 split at hs
 ·rename_i E n by' hsel
  split at hs
  ·rename_i z hz
   split at hs
   ·rename_i cs hf
    obtain⟨h1,h2,h3,h4⟩:=hs
    obtain⟨arr',q1,q2,hcl,hsize,hlen⟩:=G7 h hsel hz hf h1 h2 h3 h4
    exact⟨_,_,_,q1,R.put (d:=some d) (h.row (d::st.pre) E n len len cs arr' arr'.toList q2 (by rw [List.take_length]) hcl hsize (Nat.le_refl _) hlen (Ao cs) id) (Vu rfl)⟩
   ·exact hs.elim
  ·exact hs.elim
 ·exact hs.elim
theorem Mj {P:Program} {F:Fr} {st:St} {a:Act} {w:World} {G:Ay} (h:R F st a w G) {o:Oper} (hs:(ef P st o).1):oE P F o a w (ef P st o).2:=by
 obtain⟨dst,op,ty,pos,aft,gd⟩:=o
 cases op<;>cases dst<;>simp only [ef]at hs ⊢ <;>try (exact hs.elim)
 case store.none T x y=>
  obtain⟨w',h1,h2⟩:=Mi h (h.arg rfl hs.1) (WP (WQ (h.arg rfl hs.2.1))) hs.2.2
  exact⟨.skip,w',G,by simp [execOp,h1], .inr ⟨rfl,h2⟩⟩
 case store.some T x y d=>
  obtain⟨w',h1,h2⟩:=Mi h (h.arg rfl hs.1) (WP (WQ (h.arg rfl hs.2.1))) hs.2.2
  exact⟨.skip,w',G,by simp [execOp,h1], .inr ⟨rfl,R.put (d:=some d) h2 (by simp [Ab])⟩⟩
 case alloc.some T d=>
  split at hs
  ·rename_i cs hz
   obtain⟨i,z,hi,hzv,hc⟩:=Lp hz
   have hb:=h.box (d::st.pre) T cs z.cells (HP hc) false (fun q=>by cases q)
   refine⟨.value (.pointer (some ⟨w.heap.size,0,none⟩)),_,_,?_, .inl ⟨_,rfl,R.put (d:=some d) hb (by simp [Ab,Ad,BS])⟩⟩
   simp [execOp,Instr.alloc,run_zeroValue' hi hzv,newVar,newRow]
  ·exact hs.elim
 case box.some T x d=>
  split at hs
  ·rename_i cs hc
   have hv:=G4 (h.arg rfl hs.1) hc
   have hb:=h.box (d::st.pre) T cs (a.eval x).cells hv false (fun q=>by cases q)
   refine⟨.value (.pointer (some ⟨w.heap.size,0,none⟩)),_,_,?_, .inl ⟨_,rfl,R.put (d:=some d) hb (by simp [Ab,Ad,BS])⟩⟩
   simp [execOp,Instr.box,newVar,newRow]
  ·exact hs.elim
 case assign.some x d=>
  split at hs
  all_goals first
   | (rename_i q;cases q;done)
   | (rename_i q
      cases q
      split at hs
      ·rename_i E n hE
       have hb:=h.nilRow (d::st.pre) E n
       exact⟨.value (.slice none 0 0),w,_,by simp [execOp,Act.eval], .inl ⟨_,rfl,R.put (d:=some d) hb (Vu rfl)⟩⟩
      ·exact hs.elim)
   | exact hs.elim
 case buildSlice.some t len ps d=>
  obtain⟨r,w',G',q1,q2⟩:=HR (d:=d) h hs
  exact⟨.value r,w',G',by simp [execOp,q1], .inl ⟨r,rfl,q2⟩⟩
 case makeSlice.some t l c d=>
  obtain⟨r,w',G',q1,q2⟩:=Oo (d:=d) h (h.arg rfl hs.1) (h.arg rfl hs.2.1) hs.2.2
  exact⟨.value r,w',G',by simp [execOp,q1], .inl ⟨r,rfl,q2⟩⟩
 case call.some c d=>
  split at hs
  ·rename_i s x t t' h1 h2 h3
   obtain⟨q1,q2,q3,q4⟩:=hs
   subst q3
   have ea:c.args= #[s,x]:=by apply Array.ext';simpa using h2
   have et:c.argTypes= #[t,t]:=by apply Array.ext';simpa using h3
   obtain⟨r,w',G',k1,k2⟩:=S7 (d:=d) (ty:=ty) h (h.arg rfl q1) (h.arg rfl q2) q4
   exact⟨.value r,w',G',by simp [execOp,resolve,h1,ea,et,invoke,builtin,k1], .inl ⟨r,rfl,k2⟩⟩
  ·rename_i s x t t' h1 h2 h3
   obtain⟨q1,q2,_,q4⟩:=hs
   have ea:c.args= #[s,x]:=by apply Array.ext';simpa using h2
   have et:c.argTypes= #[t,t']:=by apply Array.ext';simpa using h3
   obtain⟨r,w',G',k1,k2⟩:=WS (d:=d) (t':=t') (ty:=ty) h (h.arg rfl q1) (h.arg rfl q2) q4
   exact⟨.value r,w',G',by simp [execOp,resolve,h1,ea,et,invoke,builtin,k1], .inl ⟨r,rfl,k2⟩⟩
  ·exact hs.elim
end Go.PL
namespace Go.PL
open Go Go.RowKit
def ent (P:Program) (f:FuncId):Bool:=
 match P.funcs[f]? with
 | some fn=> !(fn.name== "runtime.NumGoroutine")&&fn.body.isSome
 | none=>false
structure CC (P:Program) (I:World→Prop) (f:FuncId) (args:List V) (Q:V→Prop):Prop where
 ent:ent P f=true
 run: ∀ (w:World) (vs:Array Value) (av:Nat→Prop),I w→(∀ b,av b→b<w.heap.size)→Ap w (im av) args vs.toList→
  Calls P f vs w (fun e w'=> ∃ v r,e= .returned v∧Q r∧r.pure=true∧Ab w' (im av) r v∧Below w.heap.size w w')
theorem run_callFunc' {P:Program} {f:FuncId} (h:ent P f=true) (args:Array Value) (w:World):(callFunc f args).run P w= .ok (.enter f args) w:=by
 unfold ent at h
 split at h
 ·rename_i fn hf
  simp only [Bool.and_eq_true,Bool.not_eq_true']at h
  have h2: ¬fn.body=none:=by
   intro hb;rw [hb]at h;simp at h
  have h1: ¬fn.name= "runtime.NumGoroutine" :=by simpa using h.1
  simp [callFunc,program,Sem.run,hf,h1,h2]
 ·cases h
mutual
def V.flat:V→Bool
 | .c x=>x.flat
 | .agg cs=>cs.all C.flat
 | .tup vs=>Ii vs
 | _=>false
def Ii:List V→Bool
 | []=>true
 | v::vs=>v.flat&&Ii vs
end
mutual
def WT:V→Value
 | .c x=>GB x
 | .agg cs=> .agg (cs.map GB).toArray
 | .tup vs=> .tuple (WU vs).toArray
 | _=>Go.undef
def WU:List V→List Value
 | []=>[]
 | v::vs=>WT v::WU vs
end
theorem Nj {w:World} {G:Ay}: ∀ {cs:List C} {vs:List Value},cs.all C.flat=true→(Ai w G cs vs↔vs=cs.map GB)
 | [],[],_=>by simp [Ai]
 | [],_::_,_=>by simp [Ai]
 | _::_,[],_=>by simp [Ai]
 | c::cs,v::vs,h=>by
   simp only [List.all_cons,Bool.and_eq_true]at h
   simp only [Ai,List.map_cons,List.cons.injEq,AE h.1,Nj h.2]
mutual
theorem EH {w:World} {G:Ay}: ∀ {x:V} {v:Value},x.flat=true→(Ab w G x v↔v=WT x)
 | .c x,v,h=>by simp only [Ab,WT];exact AE (by simpa only [V.flat] using h)
 | .agg cs,v,h=>by
   simp only [Ab,WT]
   constructor
   ·rintro⟨arr,rfl,hr⟩
    rw [Nj (by simpa only [V.flat] using h)]at hr
    rw [←hr]
   ·intro e
    exact⟨_,e,by rw [Nj (by simpa only [V.flat] using h)]⟩
 | .tup vs,v,h=>by
   simp only [Ab,WT]
   constructor
   ·rintro⟨arr,rfl,hr⟩
    rw [I5 (by simpa only [V.flat] using h)]at hr
    rw [←hr]
   ·intro e
    exact⟨_,e,by rw [I5 (by simpa only [V.flat] using h)]⟩
 | .g _ _,_,h=>by simp [V.flat]at h
 | .undef,_,h=>by simp [V.flat]at h
theorem I5 {w:World} {G:Ay}: ∀ {xs:List V} {vs:List Value},Ii xs=true→(Ap w G xs vs↔vs=WU xs)
 | [],vs,_=>by simp only [Ap,WU]
 | x::xs,vs,h=>by
   simp only [Ii,Bool.and_eq_true]at h
   simp only [Ap,WU]
   constructor
   ·rintro⟨v,r,rfl,h1,h2⟩
    rw [(EH h.1).1 h1,(I5 h.2).1 h2]
   ·intro e
    exact⟨_,_,e,(EH h.1).2 rfl,(I5 h.2).2 rfl⟩
end
def HS (st:St):C→C
 | .osl id=>match st.look id with
   | some e=>match e.row with
     | some (_,_,len)=>if e.pu then .sl len e.cs else .any
     | none=> .any
   | none=> .any
 | .nils => .sl 0 []
 | c=>c
def Bn (st:St):V→V
 | .c x=> .c (HS st x)
 | .agg cs=> .agg (cs.map (HS st))
 | v=>v
def Mk:C→List Ah
 | .osl id=>[id]
 | _=>[]
def YH:V→List Ah
 | .c x=>Mk x
 | .agg cs=>cs.flatMap Mk
 | _=>[]
theorem Ud {F:Fr} {st:St} {a:Act} {w:World} {G:Ay} (h:R F st a w G) {av:Nat→Prop} (hav: ∀ b,b<w.heap.size→av b→G.wr b) {c:C} {v:Value} (hid: ∀ id∈Mk c,st.okFrz id=true→ ∀ b,G.blk id=some b→ ¬av b)
 (hp:(HS st c).pure =true) (hr:Ad w G c v):Ad w (im av) (HS st c) v:=by
 cases c with
 | osl id=>
   simp only [HS]at hp ⊢
   split at hp
   ·rename_i e he
    split at hp
    ·rename_i E n len hrow
     split
     rotate_left
     ·simp only [Ad];exact hr.one
     rename_i hpu
     have hpl:Ao e.cs=true:=h.pures e (A0 he).1 hpu
     have hok:st.okFrz id=true:=by simp [St.okFrz,he,hrow,hpu]
     have hf:=(h.frz he hrow hpl).own v (by simp only [Ad]at hr;exact hr.1)
     simp only [Ad]at hf ⊢
     obtain⟨hpp,ad,cap,q1,q2,q3,q4,q5⟩:=hf
     refine⟨hpp,ad,cap,q1,q2,q3,q4,?_⟩
     rcases q5 with q5 | ⟨b,o,rfl,k1,k2,k3⟩
     ·exact .inl q5
     ·by_cases hz:len=0
      ·exact .inl hz
      refine .inr ⟨b,o,rfl,?_,k2,?_⟩
      ·have hb:G.blk id=some b:=by
        obtain⟨hm,hid'⟩:=A0 he
        have hE:=h.store e hm
        unfold AX at hE
        rw [hrow]at hE
        obtain⟨hl,v',h1,h2⟩:=hE
        simp only [Ad]at hr
        rw [hid',hr.1]at h1
        injection h1 with h1;subst h1
        rcases h2 with ⟨_,_,h4,_⟩ | ⟨b',cap',cur,h3,e2,_⟩
        ·exact absurd h4 hz
        ·rw [q1]at h3
         injection h3 with h3;injection h3 with h3;injection h3 with h3
         rw [hid']at e2;rw [h3];exact e2
       exact hid id (by simp [Mk]) hok b hb
      ·exact Ak.mono (G:=BS F G id none none) (G':=im av) ⟨Nat.le_refl _,fun _ _ _=>rfl,fun b' hb' hw=>by
        have:=hav b' hb' hw
        rw [h.wr]at this
        simp only [BS]
        rcases this with q | ⟨i,q⟩
        ·exact .inl q
        ·by_cases hi:i=id
         ·subst hi;exact absurd hw (hid i (by simp [Mk]) hok b' q)
         ·exact .inr ⟨i,by simp [hi,q]⟩,fun _ _ _ _=>BX.same rfl⟩ _ _ _ (fun i hi=>by have:BE i e.cs=true:=hi;rw [AG i e.cs hpl]at this;cases this) (fun _=>rfl) k3
    ·simp [C.pure]at hp ⊢;simp only [Ad];exact hr.one
   ·simp only [Ad];exact hr.one
 | nils=>
   simp only [Ad]at hr
   subst hr
   simp only [HS,Ad]
   exact⟨rfl,none,0,rfl,Nat.le_refl _,Nat.zero_le _,fun _=>trivial, .inl trivial⟩
 | _=>
   first
    | exact Ad.mono (G:=G) (G':=im av) ⟨Nat.le_refl _,fun _ _ _=>rfl,fun b hb hw=>hav b hb hw,fun _ _ _ _=>BX.same rfl⟩ _ _ (fun i hi=>absurd (show (HS st _).men i=true from hi) (by rw [FT i _ hp];simp)) hr
theorem Ue {F:Fr} {st:St} {a:Act} {w:World} {G:Ay} (h:R F st a w G) {av:Nat→Prop} (hav: ∀ b,b<w.heap.size→av b→G.wr b): ∀ {cs:List C} {vs:List Value},(∀ id∈cs.flatMap Mk,st.okFrz id=true→ ∀ b,G.blk id=some b→ ¬av b)→
 Ao (cs.map (HS st))=true→Ai w G cs vs→Ai w (im av) (cs.map (HS st)) vs
 | [],[],_,_,_=>by simp [Ai]
 | [],_::_,_,_,h=>by simp [Ai]at h
 | _::_,[],_,_,h=>by simp [Ai]at h
 | c::cs,v::vs,hid,hp,hr=>by
   simp only [Ai]at hr
   simp only [List.map_cons,Ao,Bool.and_eq_true]at hp
   simp only [List.map_cons,Ai]
   exact⟨Ud h hav (fun id hi=>hid id (by simp [hi])) hp.1 hr.1,Ue h hav (fun id hi=>hid id (by simp only [List.flatMap_cons,List.mem_append];exact .inr hi)) hp.2 hr.2⟩
theorem Uf {F:Fr} {st:St} {a:Act} {w:World} {G:Ay} (h:R F st a w G) {av:Nat→Prop} (hav: ∀ b,b<w.heap.size→av b→G.wr b) {x:V} {v:Value} (hid: ∀ id∈YH x,st.okFrz id=true→ ∀ b,G.blk id=some b→ ¬av b)
 (hp:(Bn st x).pure =true) (hr:Ab w G x v):Ab w (im av) (Bn st x) v:=by
 cases x with
 | c x=>simp only [Bn,Ab]at hr ⊢;exact Ud h hav hid (by simpa only [Bn,V.pure] using hp) hr
 | agg cs=>
   simp only [Bn,Ab]at hr ⊢
   obtain⟨arr,e,hr⟩:=hr
   exact⟨arr,e,Ue h hav hid (by simpa only [Bn,V.pure] using hp) hr⟩
 | tup vs=>exact ae hav hp hr
 | g b v'=>exact ae hav hp hr
 | undef=>simp only [Bn,Ab]
def Cx (xs:List V):List Ah:=xs.flatMap YH
theorem Ft {F:Fr} {st:St} {a:Act} {w:World} {G:Ay} (h:R F st a w G) {av:Nat→Prop} (hav: ∀ b,b<w.heap.size→av b→G.wr b): ∀ {xs:List V} {vs:List Value},(∀ id∈Cx xs,st.okFrz id=true→ ∀ b,G.blk id=some b→ ¬av b)→
 BZ (xs.map (Bn st))=true→Ap w G xs vs→Ap w (im av) (xs.map (Bn st)) vs
 | [],_,_,_,h=>by simpa [Ap] using h
 | x::xs,vs,hid,hp,hr=>by
   simp only [Ap]at hr
   obtain⟨v,r,rfl,h1,h2⟩:=hr
   simp only [List.map_cons,BZ,Bool.and_eq_true]at hp
   simp only [List.map_cons,Ap]
   exact⟨v,r,rfl,Uf h hav (fun id hi=>hid id (by simp only [Cx,List.flatMap_cons,List.mem_append];exact .inl hi)) hp.1 h1,
    Ft h hav (fun id hi=>hid id (by simp only [Cx,List.flatMap_cons,List.mem_append];exact .inr hi)) hp.2 h2⟩
def St.after (st:St) (ids:List Ah) (d:Option Nat) (r:V):St:=
 if r.flat then st.put d r else match ids with
  | []=>st.put d r
  | id::_=>(st.freeze id).put d r
theorem Dr {B:Nat} {w w':World} (h:Below B w w'):JR w w':=⟨h.os,h.tape,h.output⟩
theorem Er {w w':World} (h:Below w.heap.size w w'):Cv w w':=⟨h.size,fun b hb=>h.block b hb⟩
theorem R.avlt' {F:Fr} {st:St} {a:Act} {w:World} {G:Ay} (h:R F st a w G) {b:Nat} (hb:G.wr b):b<w.heap.size:=by
 rw [h.wr]at hb
 rcases hb with q | ⟨i,q⟩
 ·exact Nat.lt_of_lt_of_le (h.avlt b q) h.hsize
 ·exact h.lt i b q
theorem R.called {F:Fr} {st:St} {a:Act} {w:World} {G:Ay} (h:R F st a w G) {P:Program} {f:FuncId} {xs:List V} {us:Array Value} {Q:V→Prop} (hc:CC P F.I f (xs.map (Bn st)) Q)
 (hp:BZ (xs.map (Bn st))=true) (hx:Ap w G xs us.toList) (d:Option Nat) (hfl: ∀ r,Q r→(r.flat=true∨(Cx xs).length ≤1∧ ∀ id∈Cx xs,st.okFrz id=true)):
 Calls P f us w (fun e w'=> ∃ v r G',e= .returned v∧Q r∧R F (st.after (Cx xs) d r) (a.put d v) w' G'):=by
 have hI:F.I w:=h.inv w h.hsize h.ext
 by_cases hne:Cx xs=[]
 ·have h1:=Ft h (av:=fun b=>G.wr b) (fun _ _ q=>q) (by rw [hne];simp) hp hx
  refine(hc.run w us (fun b=>G.wr b) hI (fun b hb=>h.avlt' hb) h1).mono fun e w' ⟨v,r,he,hq,hpr,hr,hb⟩=>?_
  refine⟨v,r,G,he,hq,?_⟩
  have h2:=(h.same (Dr hb) (Er hb)).put (d:=d) (Qq (G:=G) (fun _ _ q=>q) hpr hr)
  unfold St.after
  rw [hne]
  split<;>exact h2
 ·
  have hav: ∀ b,b<w.heap.size→(G.wr b∧ ∀ id∈Cx xs,G.blk id ≠ some b)→G.wr b:=fun _ _ q=>q.1
  have h1:=Ft h (av:=fun b=>G.wr b∧ ∀ id∈Cx xs,G.blk id ≠ some b) hav (fun id hi _ b hb hw=>hw.2 id hi hb) hp hx
  refine(hc.run w us _ hI (fun b hb=>h.avlt' hb.1) h1).mono fun e w' ⟨v,r,he,hq,hpr,hr,hb⟩=>?_
  by_cases hf:r.flat=true
  ·refine⟨v,r,G,he,hq,?_⟩
   have h2:=(h.same (Dr hb) (Er hb)).put (d:=d) ((EH (w:=w') (G:=G) hf).2 ((EH hf).1 hr))
   unfold St.after;rw [if_pos hf];exact h2
  ·rcases hfl r hq with q | ⟨q1,q2⟩
   ·exact absurd q hf
   ·obtain⟨id,hid⟩: ∃ id,Cx xs=[id]:=by
     match hh:Cx xs,q1,hne with
     | [],_,hne=>exact absurd rfl hne
     | [id],_,_=>exact⟨id,rfl⟩
    obtain⟨G',g1,g2,g3⟩:=h.freeze id
    refine⟨v,r,G',he,hq,?_⟩
    have g4:=g1.same (Dr hb) (Er hb)
    have hr':Ab w' G' r v:=Qq (fun b hb' hw=>⟨g2 b hw,fun i hi hbi=>by
     rw [hid]at hi;simp at hi;subst hi
     exact g3 (q2 i (by rw [hid];simp)) b hbi hw⟩) hpr hr
    unfold St.after
    rw [if_neg hf,hid]
    exact g4.put hr'
end Go.PL
namespace Go.PL
open Go Go.RowKit
def lT:C→C→Bool
 | .int _ a, .int _ b=>a==b
 | .bool a, .bool b=>a==b
 | .str a, .str b=>a==b
 | _,_=>false
def B1:List C→List C→Bool
 | [],[]=>true
 | c::cs,d::ds=>lT c d&&B1 cs ds
 | _,_=>false
theorem JU: ∀ {a b c d:List C},a.length=b.length→B1 (a++c) (b++d)=(B1 a b&&B1 c d)
 | [],[],c,d,_=>by simp [B1]
 | x::a,y::b,c,d,h=>by simp only [List.cons_append,B1,JU (a:=a) (b:=b) (by simpa using h),Bool.and_assoc]
 | [],_::_,_,_,h=>by simp at h
 | _::_,[],_,_,h=>by simp at h
def bF (P:Program) (R:TypeId→List C→Bool) (cs:List C):Nat→List Field→Bool
 | o,[]=>o==cs.length
 | o,f::fs=>f.name != "_" &&f.offset==o&&(match Ir P f.type with
   | some (ag,n)=>(ag||n==1)&&Nat.ble (o+n) cs.length&&R f.type ((cs.drop o).take n)&&bF P R cs (o+n) fs
   | none=>false)
def Pm (P:Program):Nat→TypeId→List C→Bool
 | 0,_,_=>false
 | n+1,t,cs=>match P.underlying t with
   | some .bool =>match cs with
     | [.bool _]=>true
     | _=>false
   | some (.int k)=>match cs with
     | [.int k' _]=>k==k'
     | _=>false
   | some .string =>match cs with
     | [.str _]=>true
     | _=>false
   | some (.struct fs)=> !P.stoodInHeld t&&bF P (Pm P n) cs 0 fs.toList
   | some (.array m e)=>match Ir P e with
     | some (ag,k)=>(ag||k==1)&&cs.length==m*k&&(List.range m).all fun i=>Pm P n e ((cs.drop (i*k)).take k)
     | none=>false
   | _=>false
def YI (P:Program) (t:TypeId):Bool:=match P.underlying t with
 | some d=>d.isRow
 | none=>false
def fZ (ag:Bool) (cs:List C):V:=if ag then .agg cs else .c (cs.getD 0 .any)
theorem PX {ag:Bool} {o n:Nat} {cs:List C} (h0:ag=true∨n=1) (hn:o+n≤cs.length):toV ag o n cs=fZ ag ((cs.drop o).take n):=by
 unfold toV fZ
 cases ag with
 | true=>rfl
 | false=>
   rcases h0 with h | h
   ·cases h
   subst h
   simp only [Bool.false_eq_true,if_false]
   simp [List.getD_eq_getElem?_getD,List.getElem?_take,List.getElem?_drop]
section
variable {P:Program} {w:World} {G:Ay}
def jM (P:Program) (w:World) (G:Ay) (d n:Nat) (t:TypeId):Prop:=
 ∀ (cs ds:List C) (x y:Value),Pm P n t cs=true→Pm P n t ds=true→Ab w G (fZ (YI P t) cs) x→Ab w G (fZ (YI P t) ds) y→ ∀ w',(Op.equalIn d t x y).run P w'= .ok (B1 cs ds) w'
theorem PY {t:TypeId} {ag:Bool} {n:Nat} (h:Ir P t=some (ag,n)):YI P t=ag:=by
 obtain⟨d,i,hu,hd,_⟩:=C8 h
 unfold YI;rw [hu];exact hd
theorem Oq {d n:Nat} (ih: ∀ t,jM P w G d n t) {cs ds:List C} {xs ys:Array Value} (hx:Ai w G cs xs.toList) (hy:Ai w G ds ys.toList): ∀ (fs:List Field) (o:Nat),bF P (Pm P n) cs o fs=true→bF P (Pm P n) ds o fs=true→
 ∀ w',(Op.eqFields d xs ys fs).run P w'= .ok (B1 (cs.drop o) (ds.drop o)) w'
 | [],o,h1,h2,w'=>by
   simp only [bF,beq_iff_eq]at h1 h2
   have e1:cs.drop o=[]:=by rw [h1];simp
   have e2:ds.drop o=[]:=by rw [h2];simp
   rw [e1,e2]
   simp [Op.eqFields,B1]
 | f::fs,o,h1,h2,w'=>by
   simp only [bF,Bool.and_eq_true,bne_iff_ne,ne_eq,beq_iff_eq]at h1 h2
   obtain⟨⟨hn,ho⟩,h1⟩:=h1
   obtain⟨_,h2⟩:=h2
   cases ht:Ir P f.type with
   | none=>rw [ht]at h1;cases h1
   | some p=>
     obtain⟨ag,k⟩:=p
     rw [ht]at h1 h2
     simp only [Bool.and_eq_true,Bool.or_eq_true,beq_iff_eq,Nat.ble_eq]at h1 h2
     obtain⟨⟨⟨h0,l1⟩,r1⟩,q1⟩:=h1
     obtain⟨⟨⟨_,l2⟩,r2⟩,q2⟩:=h2
     obtain⟨a,ra,pa⟩:=run_part' ht hx l1 (h0.imp id (fun h=>by omega))
     obtain⟨b,rb,pb⟩:=run_part' ht hy l2 (h0.imp id (fun h=>by omega))
     rw [PX h0 l1, ←PY ht]at ra
     rw [PX h0 l2, ←PY ht]at rb
     have he:=ih f.type _ _ a b r1 r2 ra rb w'
     have hrest:=Oq ih hx hy fs (o+k) q1 q2 w'
     have split1:cs.drop o=(cs.drop o).take k++cs.drop (o+k):=by rw [←List.drop_drop,List.take_append_drop]
     have split2:ds.drop o=(ds.drop o).take k++ds.drop (o+k):=by rw [←List.drop_drop,List.take_append_drop]
     rw [split1,split2,JU (by simp;omega)]
     simp only [Op.eqFields,hn,ne_eq,not_false_eq_true,if_true,Sem.run_bind,ho,pa,pb,he,Result.andThen_ok]
     cases B1 ((cs.drop o).take k) ((ds.drop o).take k)
     ·simp
     ·simpa using hrest
theorem Qv {d n:Nat} {e:TypeId} (ih:jM P w G d n e) {cs ds:List C} {xs ys:Array Value} {ag:Bool} {k:Nat} (ht:Ir P e=some (ag,k)) (h0:ag=true∨k=1) (hx:Ai w G cs xs.toList) (hy:Ai w G ds ys.toList): ∀ (m o:Nat),cs.length=(o+m)*k→ds.length=(o+m)*k→
 (∀ i,i<o+m→Pm P n e ((cs.drop (i*k)).take k)=true)→(∀ i,i<o+m→Pm P n e ((ds.drop (i*k)).take k)=true)→
 ∀ w',(Op.eqItems d e k xs ys ((List.range m).map (o+ ·))).run P w'= .ok (B1 (cs.drop (o*k)) (ds.drop (o*k))) w'
 | 0,o,l1,l2,_,_,w'=>by
   have e1:cs.drop (o*k)=[]:=by simp at l1;simp [l1]
   have e2:ds.drop (o*k)=[]:=by simp at l2;simp [l2]
   rw [e1,e2]
   simp [Op.eqItems,B1]
 | m+1,o,l1,l2,a1,a2,w'=>by
   have hk:(o+(m+1))*k=o*k+k+m*k:=by rw [Nat.add_mul,Nat.add_mul];omega
   have b1:o*k+k≤cs.length:=by rw [l1,hk];omega
   have b2:o*k+k≤ds.length:=by rw [l2,hk];omega
   obtain⟨a,ra,pa⟩:=run_part' ht hx b1 (h0.imp id (fun h=>by omega))
   obtain⟨b,rb,pb⟩:=run_part' ht hy b2 (h0.imp id (fun h=>by omega))
   rw [PX h0 b1, ←PY ht]at ra
   rw [PX h0 b2, ←PY ht]at rb
   have he:=ih _ _ a b (a1 o (by omega)) (a2 o (by omega)) ra rb w'
   have hrest:=Qv ih ht h0 hx hy m (o+1) (by rw [l1];congr 1;omega) (by rw [l2];congr 1;omega) (fun i hi=>a1 i (by omega)) (fun i hi=>a2 i (by omega)) w'
   have hl:(List.range (m+1)).map (o+ ·)=o::(List.range m).map (o+1+ ·):=by
    rw [List.range_succ_eq_map,List.map_cons,List.map_map]
    simp only [Nat.add_zero,List.cons.injEq,true_and]
    apply List.map_congr_left
    intro i _
    simp only [Function.comp];omega
   have e1:(o+1)*k=o*k+k:=by rw [Nat.add_mul];omega
   rw [e1]at hrest
   have split1:cs.drop (o*k)=(cs.drop (o*k)).take k++cs.drop (o*k+k):=by rw [←List.drop_drop,List.take_append_drop]
   have split2:ds.drop (o*k)=(ds.drop (o*k)).take k++ds.drop (o*k+k):=by rw [←List.drop_drop,List.take_append_drop]
   rw [split1,split2,JU (by simp;omega),hl]
   simp only [Op.eqItems,Sem.run_bind,pa,pb,he,Result.andThen_ok]
   cases B1 ((cs.drop (o*k)).take k) ((ds.drop (o*k)).take k)
   ·simp
   ·simpa using hrest
theorem Vv: ∀ (n d:Nat) (t:TypeId),jM P w G (d+n) n t
 | 0,_,_,_,_,_,_,h,_,_,_,_=>by simp [Pm]at h
 | n+1,d,t,cs,ds,x,y,h1,h2,hx,hy,w'=>by
   unfold Pm at h1 h2
   cases hu:P.underlying t with
   | none=>rw [hu]at h1;cases h1
   | some kd=>
     rw [hu]at h1 h2
     have hr:YI P t=kd.isRow:=by unfold YI;rw [hu]
     rw [hr]at hx hy
     cases kd<;>simp only at h1 h2<;>try (cases h1;done)
     case bool=>
      split at h1<;>try (cases h1;done)
      split at h2<;>try (cases h2;done)
      simp only [fZ,Ab,Ad,List.getD_cons_zero,TypeDesc.isRow,Bool.false_eq_true,if_false]at hx hy
      subst hx hy
      rw [show d+(n+1)=(d+n)+1 from rfl,run_equalIn_bool' w' (d+n) t _ _ hu]
      simp [B1,lT]
     case int k=>
      split at h1<;>try (cases h1;done)
      split at h2<;>try (cases h2;done)
      simp only [beq_iff_eq]at h1 h2
      subst h1
      simp only [fZ,Ab,Ad,List.getD_cons_zero,TypeDesc.isRow,Bool.false_eq_true,if_false]at hx hy
      subst hx hy h2
      rw [show d+(n+1)=(d+n)+1 from rfl,run_equalIn_int w' (d+n) t _ _ _ _ hu]
      simp [B1,lT]
     case string=>
      split at h1<;>try (cases h1;done)
      split at h2<;>try (cases h2;done)
      simp only [fZ,Ab,Ad,List.getD_cons_zero,TypeDesc.isRow,Bool.false_eq_true,if_false]at hx hy
      subst hx hy
      rw [show d+(n+1)=(d+n)+1 from rfl,run_equalIn_string w' (d+n) t _ _ hu]
      simp [B1,lT,ByteArray.toList_eq]
     case struct fs=>
      simp only [Bool.and_eq_true,Bool.not_eq_true']at h1 h2
      simp only [fZ,TypeDesc.isRow,if_true,Ab]at hx hy
      obtain⟨xs,rfl,hx⟩:=hx
      obtain⟨ys,rfl,hy⟩:=hy
      have hfs:P.fieldsOf t=fs:=by simp [Program.fieldsOf,hu]
      rw [show d+(n+1)=(d+n)+1 from rfl,run_equalIn_struct w' (d+n) t xs ys (by rw [hfs];exact hu) h1.1,hfs]
      have:=Oq (fun t=>Vv n d t) hx hy fs.toList 0 h1.2 h2.2 w'
      simpa using this
     case array m e=>
      cases ht:Ir P e with
      | none=>rw [ht]at h1;cases h1
      | some p=>
        obtain⟨ag,k⟩:=p
        rw [ht]at h1 h2
        simp only [Bool.and_eq_true,Bool.or_eq_true,beq_iff_eq,List.all_eq_true,List.mem_range]at h1 h2
        simp only [fZ,TypeDesc.isRow,if_true,Ab]at hx hy
        obtain⟨xs,rfl,hx⟩:=hx
        obtain⟨ys,rfl,hy⟩:=hy
        obtain⟨dd,i,_,_,hi,hsz⟩:=C8 ht
        have hc:P.cellsOf e=k:=by simp [Program.cellsOf,hi,hsz]
        rw [show d+(n+1)=(d+n)+1 from rfl,run_equalIn_array w' (d+n) xs ys hu hi]
        have:=Qv (Vv n d e) ht h1.1.1 hx hy m 0 (by simpa using h1.1.2) (by simpa using h2.1.2) (by simpa using h1.2) (by simpa using h2.2) w'
        simpa [hc] using this
def YJ (P:Program) (t:TypeId) (cs ds:List C):Bool:= !P.eqGuardType P.depth t&&YI P t&&Pm P 40 t cs&&Pm P 40 t ds
def WV (P:Program) (op:BinOp) (t:TypeId) (cs ds:List C):Prop×V:=
 match op with
 | .eql =>(YJ P t cs ds=true, .c (.bool (B1 cs ds)))
 | .neq =>(YJ P t cs ds=true, .c (.bool !(B1 cs ds)))
 | _=>no
theorem YK {op:BinOp} {t:TypeId} {cs ds:List C} {u v:Value} {ox oy:Operand} (hx:Ab w G (.agg cs) u) (hy:Ab w G (.agg ds) v) (hs:(WV P op t cs ds).1):
 ∃ r,Ab w G (WV P op t cs ds).2 r∧ ∀ w',(do eqGuard op t ox oy u v;binOp op t u v).run P w'= .ok r w':=by
 have key:YJ P t cs ds=true→ ∃ xs ys,u= .agg xs∧v= .agg ys∧(∀ w',(eqGuard op t ox oy u v).run P w'= .ok () w')∧ ∀ w',(Op.equalIn 10000 t u v).run P w'= .ok (B1 cs ds) w':=by
  intro h
  simp only [YJ,Bool.and_eq_true,Bool.not_eq_true']at h
  have hx':=hx
  have hy':=hy
  simp only [Ab]at hx' hy'
  obtain⟨xs,rfl,_⟩:=hx'
  obtain⟨ys,rfl,_⟩:=hy'
  refine⟨xs,ys,rfl,rfl,fun w'=>run_eqGuard_agg w' op t ox oy xs ys h.1.1.1,fun w'=>?_⟩
  exact Vv (P:=P) (w:=w) (G:=G) 40 9960 t cs ds _ _ h.1.2 h.2 (by rw [h.1.1.2];exact hx) (by rw [h.1.1.2];exact hy) w'
 unfold WV at *
 split at hs
 ·obtain⟨xs,ys,rfl,rfl,h1,h2⟩:=key hs
  exact⟨_,(AE rfl).2 rfl,fun w'=>by simp only [Sem.run_bind,h1,Result.andThen_ok,run_eql_struct,h2];rfl⟩
 ·obtain⟨xs,ys,rfl,rfl,h1,h2⟩:=key hs
  exact⟨_,(AE rfl).2 rfl,fun w'=>by simp only [Sem.run_bind,h1,Result.andThen_ok,run_neq_struct,h2];rfl⟩
 ·exact hs.elim
end
def bG:List C→Bool
 | []=>true
 | .int _ _::cs=>bG cs
 | .bool _::cs=>bG cs
 | .str _::cs=>bG cs
 | _::_=>false
theorem Ug: ∀ {cs:List C},bG cs=true→B1 cs cs=true
 | [],_=>rfl
 | c::cs,h=>by
   cases c<;>simp only [bG]at h<;>first | (cases h;done) | (simp only [B1,lT,beq_self_eq_true,Bool.true_and];exact Ug h)
def kinds:List C→List (Option IntKind)
 | []=>[]
 | .int k _::cs=>some k::kinds cs
 | _::cs=>none::kinds cs
theorem PZ: ∀ {cs ds:List C},kinds cs=kinds ds→B1 cs ds=true→cs=ds
 | [],[],_,_=>rfl
 | [],_::_,_,h=>by simp [B1]at h
 | _::_,[],_,h=>by simp [B1]at h
 | c::cs,d::ds,hk,h=>by
   simp only [B1,Bool.and_eq_true]at h
   cases c<;>cases d<;>simp only [lT,Bool.false_eq_true,false_and]at h
   ·simp only [kinds,List.cons.injEq,Option.some.injEq]at hk
    rw [beq_iff_eq.1 h.1,hk.1,PZ hk.2 h.2]
   ·simp only [kinds,List.cons.injEq,true_and]at hk
    rw [beq_iff_eq.1 h.1,PZ hk h.2]
   ·simp only [kinds,List.cons.injEq,true_and]at hk
    rw [beq_iff_eq.1 h.1,PZ hk h.2]
theorem dw {α:Type} [DecidableEq α] (enc:α→List C) (dl:List C→α) (hd: ∀ a,dl (enc a)=a) (hs: ∀ a,bG (enc a)=true) (hk: ∀ a b,kinds (enc a)=kinds (enc b)) (a b:α):B1 (enc a) (enc b)=(a==b):=by
 by_cases h:a=b
 ·subst h;simp [Ug (hs a)]
 ·have:B1 (enc a) (enc b)=false:=by
   cases hc:B1 (enc a) (enc b)with
   | false=>rfl
   | true=>exact absurd (by rw [←hd a,PZ (hk a b) hc,hd b]) h
  simp [this,h]
def YL:C→Int
 | .int _ n=>n
 | _=>0
structure Ck (st st':St):Prop where
 len:st'.tm.length=st.tm.length
 tm: ∀ i,st'.tm.getD i .undef = .undef ∨st'.tm.getD i .undef =st.tm.getD i .undef
 so: ∀ e∈st'.so,e∈st.so
 nd:(st.so.map (·.id)).Nodup →(st'.so.map (·.id)).Nodup
 gh:st'.gh.length=st.gh.length∧ ∀ i,st'.gh.getD i .undef = .undef ∨st'.gh.getD i .undef =st.gh.getD i .undef
 pre:st'.pre=st.pre
theorem Ck.refl (st:St):Ck st st:=⟨rfl,fun _=> .inr rfl,fun _ h=>h,id,⟨rfl,fun _=> .inr rfl⟩,rfl⟩
theorem Qw {w:World} {G:Ay}: ∀ {xs ys:List V} {vs:List Value},ys.length=xs.length→(∀ i,ys.getD i .undef = .undef ∨ys.getD i .undef =xs.getD i .undef)→Ap w G xs vs→Ap w G ys vs
 | [],[],_,_,_,h=>h
 | x::xs,y::ys,vs,hl,hi,h=>by
   simp only [Ap]at h ⊢
   obtain⟨v,r,e,h1,h2⟩:=h
   refine⟨v,r,e,?_,Qw (by simpa using hl) (fun i=>by simpa using hi (i+1)) h2⟩
   rcases hi 0 with q | q
   ·simp at q;rw [q];simp only [Ab]
   ·simp at q;rw [q];exact h1
 | [],_::_,_,hl,_,_=>by simp at hl
 | _::_,[],_,hl,_,_=>by simp at hl
theorem R.less {F:Fr} {st:St} {a:Act} {w:World} {G:Ay} {st':St} (h:R F st a w G) (hl:Ck st st'):R F st' a w G:={
 dfr:=h.dfr
 size:=by rw [hl.len];exact h.size
 slots:=fun i=>by
  rcases hl.tm i with q | q
  ·rw [q];simp only [Ab]
  ·rw [q];exact h.slots i
 ghosts:=Qw hl.gh.1 hl.gh.2 h.ghosts
 store:=fun e he=>h.store e (hl.so e he)
 deep:=fun e he=>h.deep e (hl.so e he)
 pures:=fun e he=>h.pures e (hl.so e he)
 nodup:=hl.nd h.nodup
 inj:=h.inj,lt:=h.lt,new:=h.new,wr:=h.wr,avlt:=h.avlt,inv:=h.inv,avold:=h.avold,os:=h.os,tape:=h.tape,output:=h.output,hsize:=h.hsize,ext:=h.ext}
end Go.PL
namespace Go.PL
open Go Go.RowKit
def Vw:List V→Option (List C)
 | []=>some []
 | .c x::vs=>match Vw vs with
   | some cs=>some (x::cs)
   | none=>none
 | _=>none
def De (P:Program) (st:St) (g:Bool) (op:Op):Prop×V:=
 match op with
 | .build t ps=>JT P st g t ps.toList
 | .binOp op t x y t'=>match (st.arg g x).2,(st.arg g y).2 with
   | .agg cs, .agg ds=>((st.arg g x).1∧(st.arg g y).1∧(WV P op t cs ds).1,(WV P op t cs ds).2)
   | _,_=>rd P st g (.binOp op t x y t')
 | .makeFunc (.func f) ⟨[]⟩ caps=>match Vw (st.args g caps.toList).2 with
   | some cs=>((st.args g caps.toList).1, .c (.clo f cs))
   | none=>no
 | .makeFunc (.func f) ⟨x::xs⟩ ⟨[]⟩=>match Vw (st.args g (x::xs)).2 with
   | some cs=>((st.args g (x::xs)).1, .c (.bmv f cs))
   | none=>no
 | op=>rd P st g op
theorem Qx {w:World} {G:Ay}: ∀ {vs:List V} {cs:List C} {us:List Value},Vw vs=some cs→Ap w G vs us→Ai w G cs us
 | [],cs,us,h,hr=>by simp [Vw]at h;subst h;simp only [Ap]at hr;subst hr;simp [Ai]
 | v::vs,cs,us,h,hr=>by
   unfold Vw at h
   split at h
   ·cases ‹_=([]:List V)›
   ·rename_i x vs' he
    injection he with h1 h2;subst h1 h2
    split at h
    ·rename_i cs' hcs
     injection h with h;subst h
     simp only [Ap,Ab]at hr
     obtain⟨u,r,rfl,h1,h2⟩:=hr
     simp only [Ai]
     exact⟨h1,Qx hcs h2⟩
    ·cases h
   ·cases h
theorem EI {P:Program} {F:Fr} {st:St} {a:Act} {w:World} {G:Ay} (h:R F st a w G) {g:Bool} (hg:g=true) {o:Oper} (hs:(De P st g o.op).1):
 ∃ v,Ab w G (De P st g o.op).2 v∧ ∀ w',Cv w w'→(execOp a.eval o).run P w'= .ok (.value v) w':=by
 unfold De at *
 split at hs
 ·rename_i t ps ho
  obtain⟨v,q1,q2⟩:=Vt h hg hs
  exact⟨v,q1,fun w' _=>by simp [execOp,ho,q2 w']⟩
 ·rename_i op t x y t' ho
  split at hs
  ·rename_i cs ds e1 e2
   have hx:=h.arg hg hs.1
   have hy:=h.arg hg hs.2.1
   rw [e1]at hx
   rw [e2]at hy
   obtain⟨v,q1,q2⟩:=YK (P:=P) (op:=op) (t:=t) (ox:=x) (oy:=y) hx hy hs.2.2
   refine⟨v,q1,fun w' hw'=>?_⟩
   have:=q2 w'
   simp only [execOp,ho,Sem.run_bind]at this ⊢
   rw [this];rfl
  ·rw [←ho]at hs ⊢
   exact WJ h hg hs
 ·rename_i f caps ho
  split at hs
  ·rename_i cs hcs
   have:=Qx hcs (h.args hg hs)
   refine⟨.func (.func f) #[] (caps.map a.eval),⟨_,rfl,by simpa using this⟩,fun w' _=>by simp [execOp,ho,Instr.makeFunc]⟩
  ·exact hs.elim
 ·rename_i f x xs ho
  split at hs
  ·rename_i cs hcs
   have:=Qx hcs (h.args hg hs)
   refine⟨.func (.func f) ((x::xs).map a.eval).toArray #[],⟨_,rfl,by simpa using this⟩,fun w' _=>by simp [execOp,ho,Instr.makeFunc]⟩
  ·exact hs.elim
 ·exact WJ h hg hs
inductive Kind where
 | rd | ef | call (f:FuncId) (xs:List Operand) | cut (x:Operand) | no
def B2:Op→Kind
 | .alloc _ | .box _ _ | .buildSlice .. | .makeSlice .. | .store .. => .ef
 | .assign (.const (.slice none 0 0))=> .ef
 | .slice _ x _ _ _=> .cut x
 | .call c=>match c.callee with
   | .builtin .append => .ef
   | .builtin .copy => .ef
   | .builtin _=> .rd
   | .value (.func f)=> .call f c.args.toList
   | _=> .no
 | _=> .rd
def St.cutAt (st:St) (g:Bool) (x:Operand):St:=
 match (st.arg g x).2 with
 | .c (.osl id)=>st.freeze id
 | _=>st
abbrev ah (F:Fr) (K:St→Prop) (a:Act) (w:World):Prop:= ∃ st' G',K st'∧R F st' a w G'
def Eg (P:Program) (I:World→Prop) (o:Oper) (st:St) (K:St→Prop):Prop:=
 ∀ (F:Fr) (a:Act) (w:World) (G:Ay) (Q:Exit→Act→World→Prop),F.I=I→R F st a w G→o.wp P a w (ah F K) Q
def bH (P:Program) (I:World→Prop) (o:Oper) (st:St) (K:St→Prop):Prop:=
 Eg P I o st K∨match B2 o.op with
 | .rd =>(De P st true o.op).1∧K (st.put o.dst (De P st true o.op).2)
 | .ef =>(ef P st o).1∧K (ef P st o).2
 | .call f xs=>(st.args true xs).1∧BZ ((st.args true xs).2.map (Bn st))=true∧
  ∃ Q,CC P I f ((st.args true xs).2.map (Bn st)) Q∧ ∀ r,Q r→(r.flat=true∨(Cx (st.args true xs).2).length ≤1∧ ∀ id∈Cx (st.args true xs).2,st.okFrz id=true)∧K (st.after (Cx (st.args true xs).2) o.dst r)
 | .cut x=>(De P (st.cutAt true x) true o.op).1∧K ((st.cutAt true x).put o.dst (De P (st.cutAt true x) true o.op).2)
 | .no =>False
def GD (st:St) (ops:Array Oper) (j:Nat) (want:Bool):Option Bool:=
 match ops[j]? with
 | some p=>match p.dst with
   | some t=>match st.get t with
     | .c (.bool b)=>some (b==want)
     | .g c (.c (.bool b))=>some (c&&(b==want))
     | _=>none
   | none=>none
 | none=>none
def jN (P:Program) (I:World→Prop) (o:Oper) (st:St) (g:Bool) (K:St→Prop):Prop:=
 ((g=true→bH P I o st K)∧(g=false→ ∃ x st',Ck (st.put o.dst (.g g x)) st'∧K st'))∨match B2 o.op with
 | .rd => ∃ v,(g=true→(De P st g o.op).1∧(De P st g o.op).2=v)∧K (st.put o.dst (.g g v))
 | .call f xs=>(g=true→(st.args g xs).1∧BZ ((st.args g xs).2.map (Bn st))=true)∧
  ∃ r,(r.flat=true∨Cx (st.args g xs).2=[])∧(g=true→CC P I f ((st.args g xs).2.map (Bn st)) (· =r))∧K (st.put o.dst (.g g r))
 | _=>False
def Uh (P:Program) (I:World→Prop) (ops:Array Oper) (o:Oper) (st:St) (K:St→Prop):Prop:=
 match o.guard with
 | none=>bH P I o st K
 | some (j,want)=>match GD st ops j want with
   | some g=>jN P I o st g K
   | none=>False
def Da (P:Program) (I:World→Prop) (ops:Array Oper):List Oper→St→(St→Prop)→Prop
 | [],st,K=>K st
 | o::rest,st,K=>Uh P I ops o st (fun st'=>Da P I ops rest st' K)
def jO (P:Program) (I:World→Prop) (o:Oper) (st:St) (K:St→Prop):Prop:=
 match B2 o.op with
 | .rd =>(De P st true o.op).1∧K (st.put o.dst (De P st true o.op).2)
 | .cut _=>(De P st true o.op).1∧K (st.put o.dst (De P st true o.op).2)
 | .call f xs=>(st.args true xs).1∧BZ ((st.args true xs).2.map (Bn st))=true∧
  ∃ r,r.flat=true∧CC P I f ((st.args true xs).2.map (Bn st)) (· =r)∧K (st.put o.dst r)
 | _=>False
def jP (P:Program) (I:World→Prop) (o:Oper) (st:St) (g:Bool) (K:St→Prop):Prop:=
 match B2 o.op with
 | .rd => ∃ v,(g=true→(De P st g o.op).1∧(De P st g o.op).2=v)∧K (st.put o.dst (.g g v))
 | .cut _=> ∃ v,(g=true→(De P st g o.op).1∧(De P st g o.op).2=v)∧K (st.put o.dst (.g g v))
 | .call f xs=>(g=true→(st.args g xs).1∧BZ ((st.args g xs).2.map (Bn st))=true)∧
  ∃ r,r.flat=true∧(g=true→CC P I f ((st.args g xs).2.map (Bn st)) (· =r))∧K (st.put o.dst (.g g r))
 | _=>False
def jQ (P:Program) (I:World→Prop) (ops:Array Oper) (o:Oper) (st:St) (K:St→Prop):Prop:=
 match o.guard with
 | none=>jO P I o st K
 | some (j,want)=>match GD st ops j want with
   | some g=>jP P I o st g K
   | none=>False
def Ui (P:Program) (I:World→Prop) (ops:Array Oper):List Oper→St→(St→Prop)→Prop
 | [],st,K=>K st
 | o::rest,st,K=>jQ P I ops o st (fun st'=>Ui P I ops rest st' K)
section
variable {P:Program} {F:Fr} {st:St} {a:Act} {w:World} {G:Ay} {ops:Array Oper}
theorem EJ {o:Oper} (h:o.guard=none) (y:Nat→Option Bool):Region.wanted o y=true:=by simp [Region.wanted,h]
theorem G8 (h:R F st a w G) {o:Oper} {j:Nat} {want g:Bool} (hg:o.guard=some (j,want)) (hq:GD st ops j want=some g):Region.wanted o (yielded ops a.tmps)=g:=by
 unfold GD at hq
 split at hq
 ·rename_i p hp
  split at hq
  ·rename_i t ht
   have hs:=h.slots t
   have hv: ∀ v:Value,v ≠ Go.undef→a.tmps.getD t Go.undef=v→a.tmps[t]? =some v:=by
    intro v hne he
    rw [Array.getD_eq_getD_getElem?]at he
    cases hx:a.tmps[t]? with
    | none=>rw [hx]at he;exact absurd he.symm hne
    | some x=>rw [hx]at he;exact congrArg some he
   split at hq
   ·rename_i b hb
    injection hq with hq;subst hq
    have:st.tm.getD t .undef = .c (.bool b):=hb
    rw [this]at hs
    simp only [Ab,Ad]at hs
    have:=hv _ (by simp [Go.undef]) hs
    simp [Region.wanted,hg,yielded,hp,ht,this]
   ·rename_i c b hb
    injection hq with hq;subst hq
    have:st.tm.getD t .undef = .g c (.c (.bool b)):=hb
    rw [this]at hs
    simp only [Ab,Ad]at hs
    cases c with
    | true=>
      rw [if_pos rfl]at hs
      have:=hv _ (by simp [Go.undef]) hs
      simp [Region.wanted,hg,yielded,hp,ht,this]
    | false=>
      simp only [Bool.false_eq_true,if_false]at hs
      have hn: ∀ x,a.tmps[t]? =some (.bool x)→False:=by
       intro x hx
       rw [Array.getD_eq_getD_getElem?,hx]at hs
       simp [Go.undef]at hs
      have:yielded ops a.tmps j=none:=by
       unfold yielded
       simp only [hp,Option.bind_some,ht]
       first
        | done
        | (split
           ·rename_i b' hb';exact(hn b' hb').elim
           ·rfl)
      simp [Region.wanted,hg,this]
   ·cases hq
  ·cases hq
 ·cases hq
theorem R.cutAt (h:R F st a w G) (g:Bool) (x:Operand): ∃ G',R F (st.cutAt g x) a w G':=by
 unfold St.cutAt
 split
 ·obtain⟨G',q,_⟩:=h.freeze _;exact⟨G',q⟩
 ·exact⟨G,h⟩
theorem AM {o:Oper} {v:Value} {w':World} {K:Act→World→Prop} {Q:Exit→Act→World→Prop} (hr:(execOp a.eval o).run P w= .ok (.value v) w') (h:K (a.put o.dst v) w'):o.wp P a w K Q:=by
 unfold Oper.wp Oper.upon;rw [hr];exact h
theorem Kw (h:R F st a w G) {o:Oper} {K:St→Prop} {Q:Exit→Act→World→Prop} (hs:bH P F.I o st K):o.wp P a w (ah F K) Q:=by
 unfold bH at hs
 rcases hs with hs | hs
 ·exact hs F a w G Q rfl h
 split at hs
 ·obtain⟨v,q1,q2⟩:=EI h rfl hs.1
  exact AM (q2 w (Cv.refl w)) ⟨_,G,hs.2,h.put q1⟩
 ·obtain⟨nx,w',G',q1,q2⟩:=(Mj h hs.1).out
  unfold Oper.wp Oper.upon
  rw [q1]
  rcases q2 with ⟨v,rfl,q3⟩ | ⟨rfl,q3⟩
  ·exact⟨_,G',hs.2,q3⟩
  ·exact⟨_,G',hs.2,q3⟩
 ·rename_i f xs hk
  obtain⟨h1,h2,Q',hc,hq⟩:=hs
  have hr:(execOp a.eval o).run P w= .ok (.enter f (xs.map a.eval).toArray) w:=by
   unfold B2 at hk
   split at hk<;>try (cases hk;done)
   rename_i c ho
   split at hk<;>try (cases hk;done)
   rename_i f' hcal
   injection hk with hk1 hk2
   subst hk1 hk2
   simp [execOp,ho,resolve,hcal,Act.eval,Deferred.ofValue,invoke,run_callFunc' hc.ent]
   apply Array.ext';simp
  unfold Oper.wp Oper.upon
  rw [hr]
  refine(h.called (us:=(xs.map a.eval).toArray) hc h2 (by simpa using h.args rfl h1) o.dst (fun r q=>(hq r q).1)).mono fun e w' ⟨v,r,G',he,q,hR⟩=>?_
  subst he
  exact⟨_,G',(hq r q).2,hR⟩
 ·rename_i x hk
  obtain⟨G',hR⟩:=h.cutAt true x
  obtain⟨v,q1,q2⟩:=EI hR rfl hs.1
  exact AM (q2 w (Cv.refl w)) ⟨_,G',hs.2,hR.put q1⟩
 ·exact hs.elim
theorem WW (h:R F st a w G) {d:Option Nat} {g:Bool} {x:V} {v:Value} (hg:g=true) (hx:Ab w G x v):R F (st.put d (.g g x)) (a.put d v) w G:=
 h.put (by simp only [Ab];rw [if_pos hg];exact hx)
theorem Qy (h:R F st a w G) {d:Option Nat} {g:Bool} {x:V} (hg:g=false):R F (st.put d (.g g x)) (a.put d Go.undef) w G:=
 h.put (by simp [Ab,hg])
theorem Ml {o:Oper} {f:FuncId} {xs:List Operand} (hk:B2 o.op= .call f xs) (he:ent P f=true) (w:World):(execOp a.eval o).run P w= .ok (.enter f (xs.map a.eval).toArray) w:=by
 unfold B2 at hk
 split at hk<;>try (cases hk;done)
 rename_i c ho
 split at hk<;>try (cases hk;done)
 rename_i f' hcal
 injection hk with hk1 hk2
 subst hk1 hk2
 simp [execOp,ho,resolve,hcal,Act.eval,Deferred.ofValue,invoke,run_callFunc' he]
 apply Array.ext';simp
theorem Qz (h:R F st a w G) {f:FuncId} {g:Bool} (hg:g=true) {xs:List Operand} (h1:(st.args g xs).1) (h2:BZ ((st.args g xs).2.map (Bn st))=true) {r:V} (hr:r.flat=true)
 (hc:CC P F.I f ((st.args g xs).2.map (Bn st)) (· =r)) {w':World} (ho:JR w w') (hs:Cv w w'):
 Calls P f (xs.map a.eval).toArray w' (fun e w''=>e= .returned (WT r)∧Below w'.heap.size w' w''):=by
 have hR:=h.same ho hs
 have hav: ∀ b,b<w'.heap.size→(G.wr b∧ ∀ id∈Cx (st.args g xs).2,G.blk id ≠ some b)→G.wr b:=fun _ _ q=>q.1
 have h3:=Ft hR (av:=fun b=>G.wr b∧ ∀ id∈Cx (st.args g xs).2,G.blk id ≠ some b) hav (fun id hi _ b hb hw=>hw.2 id hi hb) h2 (by simpa using hR.args hg h1)
 refine(hc.run w' _ (fun b=>G.wr b∧ ∀ id∈Cx (st.args g xs).2,G.blk id ≠ some b) (hR.inv w' hR.hsize hR.ext) (fun b hb=>hR.avlt' hb.1) (by simpa using h3)).mono fun e w'' ⟨v,r',he,hq,_,hv,hb⟩=>?_
 subst hq
 rw [EH hr]at hv
 exact⟨by rw [he,hv],hb⟩
theorem Uj (h:R F st a w G) {o:Oper} {g:Bool} {K:St→Prop} {Q:Exit→Act→World→Prop} (hs:jN P F.I o st g K):
 if g=true then o.wp P a w (ah F K) Q else ah F K (a.put o.dst Go.undef) w:=by
 unfold jN at hs
 rcases hs with hs | hs
 ·split
  ·rename_i hg;exact Kw h (hs.1 hg)
  ·rename_i hg
   have hg':g=false:=by simpa using hg
   obtain⟨x,st',h1,h2⟩:=hs.2 hg'
   exact⟨st',G,h2,(Qy h hg').less h1⟩
 split at hs
 ·obtain⟨x,hx,hs⟩:=hs
  split
  ·rename_i hg
   obtain⟨v,q1,q2⟩:=EI h hg (hx hg).1
   rw [(hx hg).2]at q1
   exact AM (q2 w (Cv.refl w)) ⟨_,G,hs,WW h hg q1⟩
  ·rename_i hg
   exact⟨_,G,hs,Qy h (by simpa using hg)⟩
 ·rename_i f xs hk
  obtain⟨h1,r,hr,hc,hK⟩:=hs
  split
  ·rename_i hg
   unfold Oper.wp Oper.upon
   rw [Ml hk (hc hg).ent w]
   rcases hr with hr | hne
   rotate_left
   ·have hp:=(h1 hg).2
    have h2:=Ft h (av:=fun b=>G.wr b) (fun _ _ q=>q) (by rw [hne];simp) hp (by simpa using h.args hg (h1 hg).1:Ap w G (st.args g xs).2 (xs.map a.eval))
    refine((hc hg).run w (xs.map a.eval).toArray (fun b=>G.wr b) (h.inv w h.hsize h.ext) (fun b hb=>h.avlt' hb) (by simpa using h2)).mono fun e w' ⟨v,r',he,hq,hpr,hr',hb⟩=>?_
    subst he hq
    exact⟨_,G,hK,WW (h.same (Dr hb) (Er hb)) hg (Qq (G:=G) (fun _ _ q=>q) hpr hr')⟩
   refine(Qz h hg (h1 hg).1 (h1 hg).2 hr (hc hg) ⟨rfl,rfl,rfl⟩ (Cv.refl w)).mono fun e w' ⟨he,hb⟩=>?_
   subst he
   exact⟨_,G,hK,WW (h.same (Dr hb) (Er hb)) hg ((EH hr).2 rfl)⟩
  ·rename_i hg
   exact⟨_,G,hK,Qy h (by simpa using hg)⟩
 ·exact hs.elim
theorem Or {Q:Exit→Act→World→Prop} {K:St→Prop} (hQ: ∀ st' a' w' G',K st'→R F st' a' w' G'→Q .normal a' w'):
 ∀ (l:List Oper) (st:St) (a:Act) (w:World) (G:Ay),R F st a w G→Da P F.I ops l st K→wpList P ops Q l a w
 | [],st,a,w,G,h,hs=>hQ st a w G hs h
 | o::rest,st,a,w,G,h,hs=>by
   refine wpList_step fun K' hK'=>?_
   have hnext: ∀ a' w',ah F (fun st'=>Da P F.I ops rest st' K) a' w'→K' a' w':=fun a' w' ⟨st',G',q,hR⟩=>
    hK' a' w' (Or hQ rest st' a' w' G' hR q)
   have hmono: ∀ {o:Oper},o.wp P a w (ah F (fun st'=>Da P F.I ops rest st' K)) Q→o.wp P a w K' Q:=fun {o} hw=>by
    unfold Oper.wp Oper.upon at *
    generalize (execOp a.eval o).run P w=r at *
    cases r with
    | ok n w'=>
      cases n<;>simp only at hw ⊢ <;>first
       | exact hnext _ _ hw
       | exact hw.mono fun e w'' he=>by cases e<;>first | exact hnext _ _ he | exact he
       | exact Rows.mono hw fun v w'' he=>hnext _ _ he
       | exact hw
    | halt x w'=>cases x<;>exact hw
   simp only [Da,Uh]at hs
   split at hs
   ·rename_i hg
    rw [EJ hg,if_pos rfl]
    exact hmono (Kw h hs)
   ·rename_i j want hg
    split at hs
    ·rename_i g hq
     rw [G8 h hg hq]
     have:=Uj (Q:=Q) h hs
     split
     ·rename_i hgt;rw [if_pos hgt]at this;exact hmono this
     ·rename_i hgt;rw [if_neg hgt]at this;exact hnext _ _ this
    ·exact hs.elim
end
end Go.PL
