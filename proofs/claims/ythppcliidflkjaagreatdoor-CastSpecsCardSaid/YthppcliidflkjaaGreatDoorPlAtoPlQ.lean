/- The pure logic: PlA, PlB, PlC, PlD, PlE, PlF, PlG, PlH, PlI, PlJ, PlK, PlL, PlLe, PlM, PlN, PlO, PlP, PlQ. -/
import Derived.WalkKit
import Derived.WalkSpells
import Derived.WalkLawsBesides
import Derived.Deep.MidRow
import Derived.Deep.LoopGhost
import Derived.Deep.QuietTactic
import Derived.BigQuiet
import Derived.Laws.StructEq
import Derived.DeepKeys
set_option linter.all false
namespace Go.PL
open Go Go.RowKit
abbrev Ae:=List Nat
inductive C where
 | int (k:IntKind) (n:Int)
 | bool (b:Bool)
 | str (s:List UInt8)
 | sl (len:Nat) (cs:List C)
 | osl (id:Ae)
 | ptr (id:Ae) (off:Nat)
 | bsl (id:Ae) (off len:Nat)
 | bld (id:Ae) (T:TypeId)
 | iptr (cs:List C) (off:Nat)
 | nilp
 | niface
 | nils
 | fn (f:FuncId)
 | clo (f:FuncId) (cs:List C)
 | held
 | any
 | mref (id:Ae)
 | gptr (g off:Nat)
 | bmv (f:FuncId) (cs:List C)
 | mp (kv:List (Int×Int))
 | isl (E:TypeId) (n len:Nat) (cs:List C)
 | rsl (id:Ae) (N off len:Nat)
inductive V where
 | c (x:C)
 | agg (cs:List C)
 | tup (vs:List V)
 | g (b:Bool) (v:V)
 | undef
structure Au where
 blk:Ae→Option Nat
 own:Ae→Option Value
 wr:Nat→Prop
mutual
def C.pure:C→Bool
 | .osl _=>false
 | .ptr .. =>false
 | .bsl .. =>false
 | .rsl .. =>false
 | .bld .. =>false
 | .mref _=>false
 | .mp _=>false
 | .clo _ cs=>Aj cs
 | .bmv _ cs=>Aj cs
 | _=>true
def Aj:List C→Bool
 | []=>true
 | c::cs=>c.pure&&Aj cs
end
mutual
def Ac (w:World) (G:Au):C→Value→Prop
 | .int k n,v=>v= .int k n
 | .bool b,v=>v= .bool b
 | .str s,v=>v= .string ⟨s.toArray⟩
 | .sl len cs,v=>Aj cs=true∧ ∃ a cap,v= .slice a len cap∧len≤cap∧cap≤maxLen∧(len=0→cs=[])∧
  (len=0∨ ∃ b off,a=some ⟨b,off,none⟩∧ ¬G.wr b∧b<w.heap.size∧Ai w G cs b off)
 | .osl id,v=>G.own id=some v∧v.oneCell'=true
 | .ptr id off,v=> ∃ b,G.blk id=some b∧v= .pointer (some ⟨b,off,none⟩)
 | .bsl id off len,v=> ∃ b cap o,G.blk id=some b∧v= .slice (some ⟨b,o,none⟩) len cap∧len≤cap∧o≤off∧(len=0∨o=off)
 | .bld id T,v=> ∃ b,G.blk id=some b∧(∃ cur fz,w.heap[b]? =some (.cells cur T fz))∧(v= .pointer none∨v= .pointer (some ⟨b,0,none⟩))
 | .iptr cs off,v=>Aj cs=true∧ ∃ b o,v= .pointer (some ⟨b,o+off,none⟩)∧ ¬G.wr b∧b<w.heap.size∧Ai w G cs b o
 | .nilp,v=>v= .pointer none
 | .niface,v=>v= .nilIface
 | .nils,v=>v= .slice none 0 0
 | .fn f,v=>v= .func (.func f) #[] #[]
 | .clo f cs,v=> ∃ arr:Array Value,v= .func (.func f) #[] arr∧Ag w G cs arr.toList
 | .bmv f cs,v=> ∃ arr:Array Value,v= .func (.func f) arr #[]∧Ag w G cs arr.toList
 | .held,v=> ∃ t x,v= .iface t x
 | .any,v=>v.oneCell'=true
 | .mref id,v=> ∃ b,G.blk id=some b∧v= .map (some b)
 | .gptr g off,v=>v= .pointer (some ⟨g,off,none⟩)
 | .mp _,_=>False
 | .isl ..,v=>v.oneCell'=true
 | .rsl id N off len,v=> ∃ b len0 cap0 o cap,G.own id=some (.slice (some ⟨b,0,none⟩) len0 cap0)∧v= .slice (some ⟨b,o,none⟩) len cap∧len≤cap∧off+cap=cap0∧(off<cap0→o=off*N)
def Ai (w:World) (G:Au):List C→Nat→Nat→Prop
 | [],_,_=>True
 | c::cs,b,off=>(∃ v,w.cell? ⟨b,off,none⟩=some v∧Ac w G c v)∧Ai w G cs b (off+1)
def Ag (w:World) (G:Au):List C→List Value→Prop
 | [],[]=>True
 | c::cs,v::vs=>Ac w G c v∧Ag w G cs vs
 | [],_::_=>False
 | _::_,[]=>False
end
mutual
def Ab (w:World) (G:Au):V→Value→Prop
 | .c x,v=>Ac w G x v
 | .agg cs,v=> ∃ arr,v= .agg arr∧Ag w G cs arr.toList
 | .tup vs,v=> ∃ arr,v= .tuple arr∧An w G vs arr.toList
 | .g b x,v=>if b=true then Ab w G x v else v=Go.undef
 | .undef,_=>True
def An (w:World) (G:Au):List V→List Value→Prop
 | [],vs=>vs=[]
 | x::xs,vs=> ∃ v r,vs=v::r∧Ab w G x v∧An w G xs r
end
mutual
def C.men (id:Ae):C→Bool
 | .osl i=>i==id
 | .ptr i _=>i==id
 | .bsl i _ _=>i==id
 | .rsl i _ _ _=>i==id
 | .bld i _=>i==id
 | .mref i=>i==id
 | .clo _ cs=>Bd id cs
 | .bmv _ cs=>Bd id cs
 | _=>false
def Bd (id:Ae):List C→Bool
 | []=>false
 | c::cs=>c.men id||Bd id cs
end
mutual
theorem GT (id:Ae): ∀ c:C,c.pure=true→c.men id=false
 | .osl _,h=>by simp [C.pure]at h
 | .ptr ..,h=>by simp [C.pure]at h
 | .bsl ..,h=>by simp [C.pure]at h
 | .rsl ..,h=>by simp [C.pure]at h
 | .bld ..,h=>by simp [C.pure]at h
 | .mref ..,h=>by simp [C.pure]at h
 | .mp ..,h=>by simp [C.pure]at h
 | .isl ..,_=>by simp [C.men]
 | .gptr ..,_=>by simp [C.men]
 | .clo _ cs,h=>by simp only [C.men];exact AE id cs (by simpa only [C.pure] using h)
 | .bmv _ cs,h=>by simp only [C.men];exact AE id cs (by simpa only [C.pure] using h)
 | .sl ..,_=>by simp [C.men]
 | .iptr ..,_=>by simp [C.men]
 | .int ..,_=>by simp [C.men]
 | .bool _,_=>by simp [C.men]
 | .str _,_=>by simp [C.men]
 | .nilp,_=>by simp [C.men]
 | .niface,_=>by simp [C.men]
 | .nils,_=>by simp [C.men]
 | .fn _,_=>by simp [C.men]
 | .held,_=>by simp [C.men]
 | .any,_=>by simp [C.men]
theorem AE (id:Ae): ∀ cs:List C,Aj cs=true→Bd id cs=false
 | [],_=>by simp [Bd]
 | c::cs,h=>by
   simp only [Aj,Bool.and_eq_true]at h
   simp [Bd,GT id c h.1,AE id cs h.2]
end
theorem BI: ∀ l:List C,Aj l=l.all C.pure
 | []=>rfl
 | c::l=>by simp [Aj,BI l]
theorem Bb (l m:List C):Aj (l++m)=(Aj l&&Aj m):=by simp [BI]
theorem IK {α:Type} (f:α→C) (h: ∀ x,(f x).pure =true) (l:List α):Aj (l.map f)=true:=by simp [BI,h]
theorem Cc {α:Type} (f:α→List C) (h: ∀ x,Aj (f x)=true): ∀ l:List α,Aj (l.flatMap f)=true
 | []=>rfl
 | a::l=>by rw [List.flatMap_cons,Bb,h,Cc f h l];rfl
theorem Hs {l:List C} (n:Nat) (h:Aj l=true):Aj (l.take n)=true:=by
 grind [BI]
theorem Ht {l:List C} (n:Nat) (h:Aj l=true):Aj (l.drop n)=true:=by
 grind [BI]
theorem ZQ {l:List C} (n:Nat) (h:Aj l=true):(l.getD n .any).pure =true:=by
 rw [List.getD_eq_getElem?_getD]
 cases hx:l[n]? with
 | none=>rfl
 | some x=>grind [BI]
def FE (S:Ae→Prop) (G G':Au):Prop:= ∀ id,S id→G'.blk id=G.blk id∧G'.own id=G.own id
def Bt (w w':World) (b:Nat):Prop:= ∀ cur T fz,w.heap[b]? =some (.cells cur T fz)→ ∃ cur' fz',w'.heap[b]? =some (.cells cur' T fz')
theorem Bt.same {w w':World} {b:Nat} (h:w'.heap[b]? =w.heap[b]?):Bt w w' b:=fun cur _ fz q=>⟨cur,fz,h.trans q⟩
structure BE (G G':Au) (w w':World):Prop where
 size:w.heap.size≤w'.heap.size
 block: ∀ b,b<w.heap.size→ ¬G.wr b→w'.heap[b]? =w.heap[b]?
 wr: ∀ b,b<w.heap.size→G'.wr b→G.wr b
 ty: ∀ i b,G.blk i=some b→G'.blk i=some b→Bt w w' b
mutual
theorem Ac.one {w:World} {G:Au}: ∀ {c:C} {v:Value},Ac w G c v→v.oneCell'=true
 | .int ..,v,h=>by simp only [Ac]at h;subst h;rfl
 | .bool ..,v,h=>by simp only [Ac]at h;subst h;rfl
 | .str ..,v,h=>by simp only [Ac]at h;subst h;rfl
 | .sl ..,v,h=>by simp only [Ac]at h;obtain⟨_,a,cap,rfl,_⟩:=h;rfl
 | .osl _,v,h=>by grind [Ac]
 | .ptr ..,v,h=>by simp only [Ac]at h;obtain⟨b,_,rfl⟩:=h;rfl
 | .bsl ..,v,h=>by simp only [Ac]at h;obtain⟨b,cap,o,_,rfl,_⟩:=h;rfl
 | .rsl ..,v,h=>by simp only [Ac]at h;obtain⟨_,_,_,_,_,_,rfl,_⟩:=h;rfl
 | .bld ..,v,h=>by simp only [Ac]at h;obtain⟨b,_,_,rfl | rfl⟩:=h<;>rfl
 | .iptr ..,v,h=>by simp only [Ac]at h;obtain⟨_,b,o,rfl,_⟩:=h;rfl
 | .nilp,v,h=>by simp only [Ac]at h;subst h;rfl
 | .niface,v,h=>by simp only [Ac]at h;subst h;rfl
 | .nils,v,h=>by simp only [Ac]at h;subst h;rfl
 | .fn _,v,h=>by simp only [Ac]at h;subst h;rfl
 | .clo ..,v,h=>by simp only [Ac]at h;obtain⟨arr,rfl,_⟩:=h;rfl
 | .bmv ..,v,h=>by simp only [Ac]at h;obtain⟨arr,rfl,_⟩:=h;rfl
 | .held,v,h=>by simp only [Ac]at h;obtain⟨t,x,rfl⟩:=h;rfl
 | .any,v,h=>by grind [Ac]
 | .mref ..,v,h=>by simp only [Ac]at h;obtain⟨b,_,rfl⟩:=h;rfl
 | .mp ..,v,h=>by simp only [Ac]at h
 | .isl ..,v,h=>by grind [Ac]
 | .gptr ..,v,h=>by simp only [Ac]at h;subst h;rfl
end
theorem cell?_of_block' {w w':World} {b:Nat} (h:w'.heap[b]? =w.heap[b]?) (o:Nat):w'.cell? ⟨b,o,none⟩=w.cell? ⟨b,o,none⟩:=
 (by grind [World.cell?_of_block])
mutual
theorem Ac.mono {w w':World} {G G':Au} (hk:BE G G' w w'): ∀ (c:C) (v:Value),FE (fun id=>c.men id=true) G G'→Ac w G c v→Ac w' G' c v
 | .int ..,_,_,h=>by grind [Ac]
 | .bool ..,_,_,h=>by grind [Ac]
 | .str ..,_,_,h=>by grind [Ac]
 | .sl len cs,v,ha,h=>by
   simp only [Ac]at h ⊢
   obtain⟨hp,a,cap,h1,h2,h3,h4,h5⟩:=h
   refine⟨hp,a,cap,h1,h2,h3,h4,?_⟩
   rcases h5 with h5 | ⟨b,off,e,hm,hb,hr⟩
   ·grind
   ·exact .inr ⟨b,off,e,fun hm'=>hm (hk.wr b hb hm'),Nat.lt_of_lt_of_le hb hk.size,Ai.mono hk cs b off (fun id hid=>absurd (show Bd id cs=true from hid) (by rw [AE id cs hp];simp)) (fun o=>cell?_of_block' (hk.block b hb hm) o) hr⟩
 | .osl id,v,ha,h=>by
   simp only [Ac]at h ⊢
   rw [(ha id (by simp [C.men])).2];exact h
 | .ptr id off,v,ha,h=>by
   simp only [Ac]at h ⊢
   rw [(ha id (by simp [C.men])).1];exact h
 | .bsl id off len,v,ha,h=>by
   simp only [Ac]at h ⊢
   rw [(ha id (by simp [C.men])).1];exact h
 | .rsl id N off len,v,ha,h=>by
   simp only [Ac]at h ⊢
   rw [(ha id (by simp [C.men])).2];exact h
 | .bld id T,v,ha,h=>by
   simp only [Ac]at h ⊢
   obtain⟨b,h1,⟨cur,fz,h2⟩,h3⟩:=h
   have h4:G'.blk id=some b:=by rw [(ha id (by simp [C.men])).1];exact h1
   exact⟨b,h4,hk.ty id b h1 h4 cur T fz h2,h3⟩
 | .iptr cs off,v,ha,h=>by
   simp only [Ac]at h ⊢
   obtain⟨hp,b,o,e,hm,hb,hr⟩:=h
   exact⟨hp,b,o,e,fun hm'=>hm (hk.wr b hb hm'),Nat.lt_of_lt_of_le hb hk.size,Ai.mono hk cs b o (fun id hid=>absurd (show Bd id cs=true from hid) (by rw [AE id cs hp];simp)) (fun o=>cell?_of_block' (hk.block b hb hm) o) hr⟩
 | .nilp,_,_,h=>by grind [Ac]
 | .niface,_,_,h=>by grind [Ac]
 | .nils,_,_,h=>by grind [Ac]
 | .fn _,_,_,h=>by grind [Ac]
 | .clo f cs,v,ha,h=>by
   simp only [Ac]at h ⊢
   obtain⟨arr,e,hr⟩:=h
   exact⟨arr,e,Ag.mono hk cs _ (fun id hid=>ha id (by simpa only [C.men] using hid)) hr⟩
 | .bmv f cs,v,ha,h=>by
   simp only [Ac]at h ⊢
   obtain⟨arr,e,hr⟩:=h
   exact⟨arr,e,Ag.mono hk cs _ (fun id hid=>ha id (by simpa only [C.men] using hid)) hr⟩
 | .held,_,_,h=>by grind [Ac]
 | .any,_,_,h=>by grind [Ac]
 | .mref id,v,ha,h=>by
   simp only [Ac]at h ⊢
   rw [(ha id (by simp [C.men])).1];exact h
 | .mp ..,_,_,h=>by simp only [Ac]at h
 | .isl ..,_,_,h=>by grind [Ac]
 | .gptr ..,_,_,h=>by grind [Ac]
theorem Ai.mono {w w':World} {G G':Au} (hk:BE G G' w w'): ∀ (cs:List C) (b off:Nat),FE (fun id=>Bd id cs=true) G G'→(∀ o,w'.cell? ⟨b,o,none⟩=w.cell? ⟨b,o,none⟩)→Ai w G cs b off→Ai w' G' cs b off
 | [],_,_,_,_,h=>by simp only [Ai]
 | c::cs,b,off,ha,hc,h=>by
   simp only [Ai]at h ⊢
   obtain⟨⟨v,hv,hr⟩,hrest⟩:=h
   exact⟨⟨v,by grind,Ac.mono hk c v (fun id hid=>ha id (by simp_all [Bd])) hr⟩,
    Ai.mono hk cs b (off+1) (fun id hid=>ha id (by simp_all [Bd])) hc hrest⟩
theorem Ag.mono {w w':World} {G G':Au} (hk:BE G G' w w'): ∀ (cs:List C) (vs:List Value),FE (fun id=>Bd id cs=true) G G'→Ag w G cs vs→Ag w' G' cs vs
 | [],[],_,_=>by simp only [Ag]
 | [],_::_,_,h=>by simp only [Ag]at h
 | _::_,[],_,h=>by simp only [Ag]at h
 | c::cs,v::vs,ha,h=>by
   simp only [Ag]at h ⊢
   exact⟨Ac.mono hk c v (fun id hid=>ha id (by simp_all [Bd])) h.1,
    Ag.mono hk cs vs (fun id hid=>ha id (by simp_all [Bd])) h.2⟩
end
mutual
def V.men (id:Ae):V→Bool
 | .c x=>x.men id
 | .agg cs=>Bd id cs
 | .tup vs=>GG id vs
 | .g b v=>v.men id&&b
 | .undef =>false
def GG (id:Ae):List V→Bool
 | []=>false
 | v::vs=>v.men id||GG id vs
end
mutual
theorem Ab.mono {w w':World} {G G':Au} (hk:BE G G' w w'): ∀ (x:V) (v:Value),FE (fun id=>x.men id=true) G G'→Ab w G x v→Ab w' G' x v
 | .c x,v,ha,h=>by grind [Ab,Ac.mono,V.men]
 | .agg cs,v,ha,h=>by
   grind [Ab,Ag.mono,V.men]
 | .tup vs,v,ha,h=>by
   simp only [Ab]at h ⊢
   obtain⟨arr,e,hr⟩:=h
   exact⟨arr,e,An.mono hk vs _ (by simpa only [V.men] using ha) hr⟩
 | .g b x,v,ha,h=>by
   simp only [Ab]at h ⊢
   split
   ·rename_i hb;rw [if_pos hb]at h;exact Ab.mono hk x v (fun id hid=>ha id (by simp only [V.men,hb,hid,Bool.and_self])) h
   grind
 | .undef,_,_,_=>by simp only [Ab]
theorem An.mono {w w':World} {G G':Au} (hk:BE G G' w w'): ∀ (xs:List V) (vs:List Value),FE (fun id=>GG id xs=true) G G'→An w G xs vs→An w' G' xs vs
 | [],_,_,h=>by grind [An]
 | x::xs,vs,ha,h=>by
   simp only [An]at h ⊢
   obtain⟨v,r,e,h1,h2⟩:=h
   exact⟨v,r,e,Ab.mono hk x v (fun id hid=>ha id (by simp_all [GG])) h1,
    An.mono hk xs r (fun id hid=>ha id (by simp_all [GG])) h2⟩
end
theorem Ag.length {w:World} {G:Au}: ∀ {cs:List C} {vs:List Value},Ag w G cs vs→cs.length=vs.length
 | [],[],_=>rfl
 | [],_::_,h=>by simp only [Ag]at h
 | _::_,[],h=>by simp only [Ag]at h
 | c::cs,v::vs,h=>by
   simp only [Ag]at h
   simp [Ag.length h.2]
theorem Ag.get {w:World} {G:Au}: ∀ {cs:List C} {vs:List Value},Ag w G cs vs→ ∀ (i:Nat) (c:C),cs[i]? =some c→ ∃ v,vs[i]? =some v∧Ac w G c v
 | [],[],_,i,c,hc=>by simp at hc
 | [],_::_,h,_,_,_=>by grind
 | _::_,[],h,_,_,_=>by simp only [Ag]at h
 | c::cs,v::vs,h,i,d,hd=>by
   simp only [Ag]at h
   cases i with
   | zero=>simp at hd;subst hd;exact⟨v,by simp,h.1⟩
   | succ i=>simp at hd;obtain⟨v',h1,h2⟩:=Ag.get h.2 i d hd;exact⟨v',by simpa using h1,h2⟩
theorem Ag.one {w:World} {G:Au}: ∀ {cs:List C} {vs:List Value},Ag w G cs vs→ ∀ v∈vs,v.oneCell'=true
 | [],[],_,v,hv=>by cases hv
 | [],_::_,h,_,_=>by simp only [Ag]at h
 | _::_,[],h,_,_=>by grind
 | c::cs,v::vs,h,u,hu=>by
   simp only [Ag]at h
   rcases List.mem_cons.1 hu with rfl | hu
   ·exact Ac.one h.1
   ·exact Ag.one h.2 u hu
theorem Ag.drop {w:World} {G:Au}: ∀ {cs:List C} {vs:List Value},Ag w G cs vs→ ∀ n,Ag w G (cs.drop n) (vs.drop n)
 | cs,vs,h,0=>by grind
 | [],[],h,n+1=>by simp [Ag]
 | [],_::_,h,_+1=>by simp only [Ag]at h
 | _::_,[],h,_+1=>by simp only [Ag]at h
 | c::cs,v::vs,h,n+1=>by simp only [Ag]at h;simpa using Ag.drop h.2 n
theorem Ag.take {w:World} {G:Au}: ∀ {cs:List C} {vs:List Value},Ag w G cs vs→ ∀ n,Ag w G (cs.take n) (vs.take n)
 | cs,vs,h,0=>by simp [Ag]
 | [],[],h,n+1=>by simp [Ag]
 | [],_::_,h,_+1=>by simp only [Ag]at h
 | _::_,[],h,_+1=>by simp only [Ag]at h
 | c::cs,v::vs,h,n+1=>by
   simp only [Ag]at h
   simp only [List.take_succ_cons,Ag]
   exact⟨h.1,Ag.take h.2 n⟩
theorem Ag.append {w:World} {G:Au}: ∀ {cs:List C} {vs:List Value} {ds:List C} {us:List Value},Ag w G cs vs→Ag w G ds us→Ag w G (cs++ds) (vs++us)
 | [],[],_,_,_,h'=>by grind
 | [],_::_,_,_,h,_=>by simp only [Ag]at h
 | _::_,[],_,_,h,_=>by simp only [Ag]at h
 | c::cs,v::vs,ds,us,h,h'=>by
   simp only [Ag]at h
   simp only [List.cons_append,Ag]
   exact⟨h.1,Ag.append h.2 h'⟩
theorem Ai.list {w:World} {G:Au}: ∀ {cs:List C} {b off:Nat},Ai w G cs b off→ ∃ vs,Ag w G cs vs∧w.rangeAt b off vs
 | [],b,off,_=>⟨[],by simp only [Ag],fun j v h=>by simp at h⟩
 | c::cs,b,off,h=>by
   simp only [Ai]at h
   obtain⟨⟨v,hv,hr⟩,hrest⟩:=h
   obtain⟨vs,h1,h2⟩:=Ai.list hrest
   refine⟨v::vs,by simp only [Ag];exact⟨hr,h1⟩,fun j u hu=>?_⟩
   cases j with
   | zero=>simp at hu;subst hu;simpa using hv
   | succ j=>simp at hu;have:=h2 j u hu;rw [show off+(j+1)=off+1+j by omega];exact this
theorem Ai.of_list {w:World} {G:Au}: ∀ {cs:List C} {vs:List Value} {b off:Nat},Ag w G cs vs→w.rangeAt b off vs→Ai w G cs b off
 | [],[],b,off,_,_=>by simp only [Ai]
 | [],_::_,_,_,h,_=>by simp only [Ag]at h
 | _::_,[],_,_,h,_=>by simp only [Ag]at h
 | c::cs,v::vs,b,off,h,hr=>by
   simp only [Ag]at h
   simp only [Ai]
   refine⟨⟨v,by simpa using hr 0 v (by simp),h.1⟩,Ai.of_list h.2 (fun j u hu=>?_)⟩
   have:=hr (j+1) u (by simpa using hu)
   rw [show off+1+j=off+(j+1) by omega];exact this
theorem Ai.drop {w:World} {G:Au} {cs:List C} {b off:Nat} (h:Ai w G cs b off) (n:Nat):Ai w G (cs.drop n) b (off+n):=by
 obtain⟨vs,h1,h2⟩:=h.list
 refine Ai.of_list (h1.drop n) (fun j v hv=>?_)
 rw [List.getElem?_drop]at hv
 have:=h2 _ v hv
 grind
theorem Ai.take {w:World} {G:Au} {cs:List C} {b off:Nat} (h:Ai w G cs b off) (n:Nat):Ai w G (cs.take n) b off:=by
 obtain⟨vs,h1,h2⟩:=h.list
 refine Ai.of_list (h1.take n) (fun j v hv=>?_)
 rw [List.getElem?_take]at hv
 split at hv
 ·exact h2 j v hv
 ·cases hv
end Go.PL
namespace Go.PL
open Go Go.RowKit
structure Ak where
 id:Ae
 row:Option (TypeId×Nat×Nat)
 cs:List C
 pu:Bool:=false
structure St where
 tm:List V
 so:List Ak
 gh:List V:=[]
 pre:Ae:=[]
structure Fr where
 w0:World
 av:Nat→Prop
 old:Nat→Prop
 I:World→Prop
 gv:List Value:=[]
def mO (kv:List (Int×Int)) (es:List MapEntry):Prop:=
 es=kv.zipIdx.map fun p=>⟨.int .i64 p.1.1, .int .i64 p.1.2,p.2⟩
def cd (w:World) (G:Au) (cs:List C) (b:Nat):Prop:=
 (∃ kv es,cs=[.mp kv]∧w.heap[b]? =some (.map es kv.length)∧mO kv es.toList∧(kv.map (·.1)).Nodup)∨
 (∃ T cur,w.heap[b]? =some (.cells cur T (0,0))∧cur.size=cs.length∧Ai w G cs b 0)
def ST:List C→Bool
 | [.mp _]=>true
 | _=>false
theorem cd.cells {w:World} {G:Au} {cs:List C} {b:Nat} (h:cd w G cs b) (hn:ST cs=false): ∃ T cur,w.heap[b]? =some (.cells cur T (0,0))∧cur.size=cs.length∧Ai w G cs b 0:=by
 rcases h with ⟨kv,es,rfl,_⟩ | h
 ·cases hn
 ·exact h
def AJ (w:World) (G:Au) (e:Ak):Prop:=
 match e.row with
 | none=> ∃ b,G.blk e.id=some b∧cd w G e.cs b
 | some (E,n,len)=>e.cs.length=len*n∧ ∃ v,G.own e.id=some v∧
  ((∃ p,v= .slice p 0 0∧len=0∧G.blk e.id=none)∨
   ∃ b cap cur,v= .slice (some ⟨b,0,none⟩) len cap∧G.blk e.id=some b∧w.heap[b]? =some (.cells cur E (0,0))∧len≤cap∧cap≤maxLen∧cur.size=cap*n∧Ai w G e.cs b 0)
def BX:Ae→Bool
 | []=>false
 | d::_=>Nat.beq d 1000007
def Db:Ae→Bool
 | []=>false
 | d::_=>Nat.beq d 1000003
def A9 (k:Nat) (id:Ae):Ae:=1000007::k::id
theorem J4 {k j:Nat} {a b:Ae} (h:A9 k a=A9 j b):k=j∧a=b:=by
 grind [A9]
theorem U4 (k:Nat) (id:Ae):BX (A9 k id)=true:=rfl
def C7 (w:World) (G:Au) (e:Ak):Prop:=
 ∀ k E n len cs,e.cs[k]? =some (.isl E n len cs)→Aj cs=true∧AJ w G ⟨A9 k e.id,some (E,n,len),cs,true⟩∧
   ∃ b v,G.blk e.id=some b∧w.cell? ⟨b,k,none⟩=some v∧G.own (A9 k e.id)=some v
def AY (w:World) (G:Au) (e:Ak):Prop:=BX e.id=false∧(Db e.id=true→e.pu=true∧e.row.isSome=true∧C7 w G e)
structure R (F:Fr) (st:St) (a:Act) (w:World) (G:Au):Prop where
 dfr:a.defers=[]
 size:a.tmps.size=st.tm.length
 slots: ∀ i,Ab w G (st.tm.getD i .undef) (a.tmps.getD i Go.undef)
 ghosts:An w G st.gh F.gv
 store: ∀ e∈st.so,AJ w G e
 deep: ∀ e∈st.so,AY w G e
 pures: ∀ e∈st.so,e.pu=true→Aj e.cs=true
 nodup:(st.so.map (·.id)).Nodup
 inj: ∀ i j b,G.blk i=some b→G.blk j=some b→i=j
 lt: ∀ i b,G.blk i=some b→b<w.heap.size
 new: ∀ i b,G.blk i=some b→F.w0.heap.size≤b∨F.old b
 wr: ∀ b,G.wr b↔F.av b∨ ∃ i,G.blk i=some b
 avlt: ∀ b,F.av b→b<F.w0.heap.size
 inv: ∀ w',F.w0.heap.size≤w'.heap.size→(∀ b,b<F.w0.heap.size→ ¬F.old b→w'.heap[b]? =F.w0.heap[b]?)→F.I w'
 avold: ∀ b,F.old b→ ¬F.av b
 os:w.os=F.w0.os
 tape:w.tape=F.w0.tape
 output:w.output=F.w0.output
 hsize:F.w0.heap.size≤w.heap.size
 ext: ∀ b,b<F.w0.heap.size→ ¬F.old b→w.heap[b]? =F.w0.heap[b]?
def St.get (st:St) (t:Nat):V:=st.tm.getD t .undef
def St.put (st:St) (d:Option Nat) (v:V):St:=
 match d with
 | some d=>{st with tm:=st.tm.set d v}
 | none=>st
def BK:Value→Option C
 | .int k n=>some (.int k n)
 | .bool b=>some (.bool b)
 | .string s=>some (.str s.data.toList)
 | .pointer none=>some .nilp
 | .nilIface =>some .niface
 | .slice none 0 0=>some (.sl 0 [])
 | .map none=>some .any
 | _=>none
def CD:List Value→Option (List C)
 | []=>some []
 | v::vs=>match BK v,CD vs with
   | some c,some cs=>some (c::cs)
   | _,_=>none
def Hv:Value→V
 | .agg cs=>match CD cs.toList with
   | some l=> .agg l
   | none=> .undef
 | v=>match BK v with
   | some c=> .c c
   | none=> .undef
def St.ev (st:St):Operand→V
 | .tmp t=>st.get t
 | .const v=>Hv v
 | .func f=> .c (.fn f)
 | .global _=> .undef
def St.arg (st:St) (g:Bool) (x:Operand):Prop×V:=
 match st.ev x with
 | .g c v=>(g=true→c=true,v)
 | v=>(True,v)
theorem Jk {w:World} {G:Au}: ∀ {v:Value} {c:C},BK v=some c→Ac w G c v:=by
 intro v c h
 unfold BK at h
 split at h<;>first | (cases h;done) | (injection h with h;subst h;simp [Ac];try rfl)
 ·exact⟨rfl,none,0,⟨rfl,rfl⟩,by grind⟩
theorem Dp {w:World} {G:Au}: ∀ {vs:List Value} {cs:List C},CD vs=some cs→Ag w G cs vs
 | [],cs,h=>by grind [CD,Ag]
 | v::vs,cs,h=>by
   unfold CD at h
   split at h
   ·rename_i c cs' h1 h2
    injection h with h;subst h
    simp only [Ag]
    exact⟨Jk h1,Dp h2⟩
   ·cases h
theorem SU {w:World} {G:Au} (v:Value):Ab w G (Hv v) v:=by
 unfold Hv
 split
 ·split
  ·rename_i h;simp only [Ab];exact⟨_,rfl,Dp h⟩
  ·simp only [Ab]
 grind [Ab,Jk]
theorem R.ev {F:Fr} {st:St} {a:Act} {w:World} {G:Au} (h:R F st a w G) (x:Operand):Ab w G (st.ev x) (a.eval x):=by
 cases x with
 | tmp t=>exact h.slots t
 | const v=>exact SU v
 | func f=>simp [St.ev,Act.eval,Ab,Ac]
 | global g=>simp [St.ev,Ab]
theorem R.arg {F:Fr} {st:St} {a:Act} {w:World} {G:Au} (h:R F st a w G) {g:Bool} (hg:g=true) {x:Operand} (hs:(st.arg g x).1):Ab w G (st.arg g x).2 (a.eval x):=by
 have:=h.ev x
 unfold St.arg at *
 split at hs
 all_goals simp_all [Ab]
def Fd (P:Program) (t:TypeId):Option (Bool×Nat):=
 match P.underlying t,P.info? t with
 | some d,some i=>some (d.isRow,i.size)
 | _,_=>none
def BZ (P:Program) (t:TypeId):Option (TypeId×Nat):=
 match P.underlying t with
 | some (.slice e)=>match P.info? e with
   | some i=>some (e,i.size)
   | none=>none
 | _=>none
def CL (P:Program) (t:TypeId):Option (Nat×TypeId×Nat):=
 match P.underlying t with
 | some (.array n e)=>match P.info? e with
   | some i=>some (n,e,i.size)
   | none=>none
 | _=>none
def ZR (P:Program) (t:TypeId) (f:Nat):Option (Nat×Bool×Nat):=
 match P.underlying t with
 | some (.struct fs)=>match fs[f]? with
   | some x=>match Fd P x.type with
     | some (ag,n)=>some (x.offset,ag,n)
     | none=>none
   | none=>none
 | _=>none
def Cj (P:Program) (t:TypeId):Bool:=
 match P.underlying t with
 | some .string =>true
 | _=>false
theorem Br {P:Program} {t:TypeId} {ag:Bool} {n:Nat} (h:Fd P t=some (ag,n)): ∃ d i,P.underlying t=some d∧d.isRow=ag∧P.info? t=some i∧i.size=n:=by
 grind [Fd]
theorem BL {P:Program} {t e:TypeId} {n:Nat} (h:BZ P t=some (e,n)):P.underlying t=some (.slice e)∧ ∃ i,P.info? e=some i∧i.size=n:=by
 unfold BZ at h
 grind
theorem Eh {P:Program} {t e:TypeId} {k n:Nat} (h:CL P t=some (k,e,n)):P.underlying t=some (.array k e)∧ ∃ i,P.info? e=some i∧i.size=n:=by
 unfold CL at h
 grind
structure BY (w w':World):Prop where
 size:w.heap.size≤w'.heap.size
 block: ∀ b,b<w.heap.size→w'.heap[b]? =w.heap[b]?
theorem BY.refl (w:World):BY w w:=⟨Nat.le_refl _,fun _ _=>rfl⟩
theorem BY.trans {a b c:World} (h:BY a b) (k:BY b c):BY a c:=
 ⟨Nat.le_trans h.size k.size,fun x hx=>(k.block x (Nat.lt_of_lt_of_le hx h.size)).trans (h.block x hx)⟩
theorem BY.cell {w w':World} (h:BY w w') {p:Addr} {v:Value} (hv:w.cell? p=some v):w'.cell? p=some v:=by
 have hb:p.block<w.heap.size:=World.block_lt_of_cell? w p hv
 rw [World.cell?_of_block (h.block p.block hb)];exact hv
theorem BY.range {w w':World} (h:BY w w') {b o:Nat} {vs:List Value} (hv:w.rangeAt b o vs):w'.rangeAt b o vs:=
 fun j v hj=>h.cell (hv j v hj)
def Ak.isM (e:Ak):Bool:=match e.row with
 | none=>ST e.cs
 | some _=>false
def St.look (st:St) (id:Ae):Option Ak:=st.so.find? (fun e=>e.id==id&& !(e.isM||Db e.id))
def St.lookR (st:St) (id:Ae):Option Ak:=st.so.find? (fun e=>e.id==id&& !e.isM)
theorem LD {st:St} {id:Ae} {e:Ak} (h:st.lookR id=some e):e∈st.so∧e.id=id:=
 ⟨List.mem_of_find?_eq_some h,by have:=List.find?_some h;grind⟩
theorem ce {st:St} {id:Ae} {e:Ak} (h:st.lookR id=some e) (hr:e.row=none):ST e.cs=false:=by
 have:=List.find?_some h;simp_all [Ak.isM]
theorem AK {st:St} {id:Ae} {e:Ak} (h:st.look id=some e):e∈st.so∧e.id=id:=
 ⟨List.mem_of_find?_eq_some h,by have:=List.find?_some h;grind⟩
theorem NN {st:St} {id:Ae} {e:Ak} (h:st.look id=some e) (hr:e.row=none):ST e.cs=false:=by
 have:=List.find?_some h;simp_all [Ak.isM]
theorem DR {st:St} {id:Ae} {e:Ak} (h:st.look id=some e):Db id=false:=by
 have h1:=(AK h).2
 have:=List.find?_some h;grind
theorem AJ.row {w:World} {G:Au} {e:Ak} (h:AJ w G e) (hnm:e.row=none→ST e.cs=false) {b:Nat} (hb:G.blk e.id=some b):
 ∃ cur T,w.heap[b]? =some (.cells cur T (0,0))∧e.cs.length≤cur.size∧Ai w G e.cs b 0:=by
 unfold AJ at h
 split at h
 ·rename_i hrn
  obtain⟨b',h1,hbx⟩:=h
  obtain⟨T,cur,h2,h3,h4⟩:=hbx.cells (hnm hrn)
  grind
 ·obtain⟨hl,v,h1,h2 | ⟨b',cap,cur,e1,e2,e3,e4,e5,e6,e7⟩⟩:=h
  all_goals simp_all [Nat.mul_le_mul_right]
def toV (ag:Bool) (off n:Nat) (cs:List C):V:=if ag then .agg ((cs.drop off).take n)else .c (cs.getD off .any)
def Cy (P:Program) (t:TypeId) (st:St):V→Prop×V
 | .c (.ptr id off)=>match Fd P t,st.lookR id with
   | some (ag,n),some e=>(off+n≤e.cs.length∧(ag=true∨0<n),toV ag off n e.cs)
   | _,_=>(False, .undef)
 | .c (.iptr cs off)=>match Fd P t with
   | some (ag,n)=>(off+n≤cs.length∧(ag=true∨0<n),toV ag off n cs)
   | _=>(False, .undef)
 | _=>(False, .undef)
theorem Cd {P:Program} {w:World} {b o:Nat} {ty:TypeId} {v:Value} {d:TypeDesc} (hu:P.underlying ty=some d) (hd:d.isRow=false) (hc:w.cell? ⟨b,o,none⟩=some v):
 (Instr.loadAt ty (.pointer (some ⟨b,o,none⟩))).run P w= .ok v w:=by
 have hagg:(isAgg ty).run P w= .ok false w:=by
  unfold isAgg
  rw [Sem.run_bind,run_underlying hu w]
  cases d<;>simp_all
 simp_all [Instr.loadAt,Instr.sureAddr,loadVar]
theorem Oa {P:Program} {w:World} {G:Au} {cs:List C} {b o off n:Nat} {ty:TypeId} {ag:Bool} (hr:Ai w G cs b o) (ht:Fd P ty=some (ag,n)) (hn:off+n≤cs.length) (h0:ag=true∨0<n):
 ∃ v,Ab w G (toV ag off n cs) v∧ ∀ w',BY w w'→(Instr.loadAt ty (.pointer (some ⟨b,o+off,none⟩))).run P w'= .ok v w':=by
 obtain⟨d,i,hu,hd,hi,hsz⟩:=Br ht
 obtain⟨vs,h1,h2⟩:=hr.list
 unfold toV
 cases hag:ag with
 | true=>
   refine⟨.agg ((vs.drop off).take n).toArray,?_,fun w' hw'=>?_⟩
   ·exact⟨_,rfl,by simpa using (h1.drop off).take n⟩
   ·refine run_loadAt_mid w' b (o+off) ty ((vs.drop off).take n) d ?_ hu (by rw [hd,hag]) ?_
    ·intro j v hv
     rw [List.getElem?_take]at hv
     split at hv
     ·rw [List.getElem?_drop]at hv
      have:=(hw'.range h2) _ v hv
      grind
     ·cases hv
    ·simp [hi,hsz, ←h1.length];omega
 | false=>
   have nl:0<n:=by grind
   have hlt:off<cs.length:=by omega
   obtain⟨v,hv,hr'⟩:=h1.get off cs[off] (by simp [hlt])
   refine⟨v,?_,fun w' hw'=>?_⟩
   ·grind [Ab]
   ·exact Cd hu (by rw [hd,hag]) (by simpa using (hw'.range h2) off v hv)
theorem H8 {P:Program} {F:Fr} {st:St} {a:Act} {w:World} {G:Au} (h:R F st a w G) {t:TypeId} {x:V} {u:Value} (hx:Ab w G x u) (hs:(Cy P t st x).1):
 ∃ v,Ab w G (Cy P t st x).2 v∧ ∀ w',BY w w'→(Instr.loadAt t u).run P w'= .ok v w':=by
 unfold Cy at *
 split at hs
 ·rename_i id off
  split at hs
  ·rename_i ag n e ht he
   simp only [Ab,Ac]at hx
   obtain⟨b,hb,rfl⟩:=hx
   obtain⟨hm,hid⟩:=LD he
   obtain⟨cur,T,_,_,hrow⟩:=(h.store e hm).row (ce he) (by rw [hid];exact hb)
   grind [Oa]
  grind
 ·rename_i cs off
  split at hs
  ·rename_i ag n ht
   simp only [Ab,Ac]at hx
   obtain⟨_,b,o,rfl,_,_,hrow⟩:=hx
   grind [Oa]
  grind
 grind
end Go.PL
namespace Go.PL
open Go Go.RowKit
def LE (P:Program) (t:TypeId):Bool:=
 match P.underlying t with
 | some .bool =>true
 | _=>false
def jP (k:IntKind) (a b:Int):Int:=k.wrap (BitVec.ofInt k.bits a&&& BitVec.ofInt k.bits b).toNat
def YI (k:IntKind) (a b:Int):Int:=k.wrap (BitVec.ofInt k.bits a||| BitVec.ofInt k.bits b).toNat
def SV (k:IntKind) (a b:Int):Int:=k.wrap (BitVec.ofInt k.bits a ^^^ BitVec.ofInt k.bits b).toNat
def SW (k:IntKind) (a b:Int):Int:=k.wrap (BitVec.ofInt k.bits a&&& ~~~ BitVec.ofInt k.bits b).toNat
def EJ (op:BinOp) (k:IntKind) (a b:Int):Prop×C:=
 match op with
 | .add =>(True, .int k (k.wrap (a+b)))
 | .sub =>(True, .int k (k.wrap (a - b)))
 | .mul =>(True, .int k (k.wrap (a*b)))
 | .quo =>(b ≠ 0, .int k (k.wrap (a.tdiv b)))
 | .rem =>(b ≠ 0, .int k (a.tmod b))
 | .and =>(True, .int k (jP k a b))
 | .or =>(True, .int k (YI k a b))
 | .xor =>(True, .int k (SV k a b))
 | .andNot =>(True, .int k (SW k a b))
 | .shl =>(0≤b, .int k (k.wrap (a*2 ^ (min b.toNat k.bits))))
 | .shr =>(0≤b, .int k (a.fdiv (2 ^ (min b.toNat k.bits))))
 | .eql =>(True, .bool (a==b))
 | .neq =>(True, .bool (a != b))
 | .lss =>(True, .bool (decide (a<b)))
 | .leq =>(True, .bool (decide (a≤b)))
 | .gtr =>(True, .bool (decide (b<a)))
 | .geq =>(True, .bool (decide (b≤a)))
def Fe (op:BinOp) (a b:List UInt8):Prop×C:=
 match op with
 | .add =>(a.length+b.length≤maxLen, .str (a++b))
 | .eql =>(True, .bool (a==b))
 | .neq =>(True, .bool (a != b))
 | .lss =>(True, .bool (Op.bytesLess a b))
 | .leq =>(True, .bool (Op.bytesLess a b||a==b))
 | .gtr =>(True, .bool (!(Op.bytesLess a b||a==b)))
 | .geq =>(True, .bool (!Op.bytesLess a b))
 | _=>(False, .any)
def GU (op:BinOp) (k k':IntKind):Prop:=
 match op with
 | .shl | .shr =>True
 | _=>k=k'
def Fl (P:Program) (t:TypeId):Bool:=
 match P.underlying t with
 | some (.interface _)=>true
 | _=>false
def FF (P:Program) (t:TypeId):Bool:=
 match P.underlying t with
 | some (.pointer _)=>true
 | _=>false
def GV (op:BinOp) (b:Bool) (s:Prop):Prop×V:=
 match op with
 | .eql =>(s, .c (.bool b))
 | .neq =>(s, .c (.bool !b))
 | _=>(False, .undef)
def AL:Operand→Bool
 | .const _=>true
 | _=>false
def NE (P:Program) (op:BinOp) (t:TypeId) (k:Bool):V→V→Prop×V
 | .c (.int k a), .c (.int k' b)=>(GU op k k'∧(EJ op k a b).1, .c (EJ op k a b).2)
 | .c (.str a), .c (.str b)=>((Fe op a b).1, .c (Fe op a b).2)
 | .c (.bool a), .c (.bool b)=>match op with
   | .eql =>(LE P t=true, .c (.bool (a==b)))
   | .neq =>(LE P t=true, .c (.bool (a != b)))
   | _=>(False, .undef)
 | .c .niface, .c .niface =>GV op true (k=true∧Fl P t=true)
 | .c .held, .c .niface =>GV op false (Fl P t=true)
 | .c (.ptr _ _), .c .nilp =>GV op false (FF P t=true)
 | .c (.iptr _ _), .c .nilp =>GV op false (FF P t=true)
 | .c .nilp, .c .nilp =>GV op true (FF P t=true)
 | _,_=>(False, .undef)
theorem Hw {P:Program} {t:TypeId} (h:Fl P t=true): ∃ ms,P.underlying t=some (.interface ms):=by
 grind [Fl]
theorem FG {P:Program} {t:TypeId} (h:FF P t=true): ∃ e,P.underlying t=some (.pointer e):=by
 grind [FF]
theorem Gp {P:Program} {t:TypeId} (h:LE P t=true):P.underlying t=some .bool :=by
 grind [LE]
theorem BM {P:Program} {t:TypeId} (h:Cj P t=true):P.underlying t=some .string :=by
 grind [Cj]
theorem Ob (a:List UInt8):(⟨a.toArray⟩:ByteArray).size =a.length:=by simp [ByteArray.size]
def EK:C→Value
 | .int k n=> .int k n
 | .bool b=> .bool b
 | .str s=> .string ⟨s.toArray⟩
 | .nilp => .pointer none
 | .niface => .nilIface
 | .fn f=> .func (.func f) #[] #[]
 | _=>Go.undef
def C.flat:C→Bool
 | .int .. | .bool _ | .str _ | .nilp | .niface | .fn _=>true
 | _=>false
theorem Ay {w:World} {G:Au} {c:C} (hc:c.flat=true) {v:Value}:Ac w G c v↔v=EK c:=by
 cases c<;>simp_all [C.flat,Ac,EK]
theorem LF {P:Program} {op:BinOp} {t:TypeId} {k k':IntKind} {x y:Int} {ox oy:Operand} (h1:GU op k k') (h2:(EJ op k x y).1) (w:World):
 (do eqGuard op t ox oy (.int k x) (.int k' y);binOp op t (.int k x) (.int k' y)).run P w= .ok (EK (EJ op k x y).2) w∧(EJ op k x y).2.flat =true:=by
 refine⟨?_,by cases op<;>rfl⟩
 cases op<;>simp only [GU,EJ]at h1 h2<;>(try subst h1)<;>simp only [EJ,EK]<;>
  first
   | (simp [eqGuard,binOp,Op.intArith,Op.intDiv,Op.intBits,Op.intCmp,h2,jP,YI,SV,SW];done)
   | (have h3: ¬y<0:=by omega
      simp [eqGuard,binOp,Op.shift,h3])
theorem LG {P:Program} {op:BinOp} {t:TypeId} {x y:List UInt8} {ox oy:Operand} (h2:(Fe op x y).1) (w:World):
 (do eqGuard op t ox oy (.string ⟨x.toArray⟩) (.string ⟨y.toArray⟩);binOp op t (.string ⟨x.toArray⟩) (.string ⟨y.toArray⟩)).run P w= .ok (EK (Fe op x y).2) w∧(Fe op x y).2.flat =true:=by
 cases op<;>simp only [Fe]at h2<;>refine⟨?_,rfl⟩<;>simp only [Fe,EK]
 case add=>
  have h3: ¬((x.length+y.length:Nat):Int)>IntKind.i64.max:=by
   have:IntKind.i64.max=9223372036854775807:=by decide
   grind [maxLen]
  simp only [eqGuard,binOp,Op.stringOp,Ob]
  rw [if_neg h3]
  have e:(⟨x.toArray⟩++⟨y.toArray⟩:ByteArray)=⟨(x++y).toArray⟩:=by
   apply ByteArray.ext
   simp
  simp [e]
 all_goals simp_all [eqGuard,binOp,Op.stringOp,bne]
theorem DA {P:Program} {op:BinOp} {t:TypeId} {u v:Value} {b:Bool} {s:Prop} {w:World} {G:Au} {ox oy:Operand} (hs:(GV op b s).1) (hshape:(∀ k a,u ≠ .int k a)∧(∀ k a,u ≠ .float k a)∧(∀ k a c,u ≠ .complex k a c)∧(∀ a,u ≠ .string a))
 (hg:s→ ∀ w',(eqGuard op t ox oy u v).run P w'= .ok () w') (he:s→ ∀ w',(Op.equal t u v).run P w'= .ok b w'):
 ∃ r,Ab w G (GV op b s).2 r∧ ∀ w',(do eqGuard op t ox oy u v;binOp op t u v).run P w'= .ok r w':=by
 unfold GV at *
 obtain⟨h1,h2,h3,h4⟩:=hshape
 split at hs
 ·refine⟨.bool b,(Ay rfl).2 rfl,fun w'=>?_⟩
  simp_all [binOp]
 ·refine⟨.bool !b,(Ay rfl).2 rfl,fun w'=>?_⟩
  simp_all [binOp]
 grind
theorem ZS {P:Program} (d:Nat) {t u:TypeId} {x:Value} {ms:Array (String×TypeId)} (h:P.underlying t=some (.interface ms)) (w:World):(Op.equalIn (d+1) t (.iface u x) .nilIface).run P w= .ok false w:=by
 simp [Op.equalIn,run_underlying h]
theorem fO {P:Program} (d:Nat) {t:TypeId} {ms:Array (String×TypeId)} (h:P.underlying t=some (.interface ms)) (w:World):(Op.equalIn (d+1) t .nilIface .nilIface).run P w= .ok true w:=by
 simp [Op.equalIn,run_underlying h]
theorem fP {P:Program} (d:Nat) {t e:TypeId} {a:Addr} (h:P.underlying t=some (.pointer e)) (w:World):(Op.equalIn (d+1) t (.pointer (some a)) (.pointer none)).run P w= .ok false w:=by
 simp [Op.equalIn,run_underlying h]
theorem fQ {P:Program} (d:Nat) {t e:TypeId} (h:P.underlying t=some (.pointer e)) (w:World):(Op.equalIn (d+1) t (.pointer none) (.pointer none)).run P w= .ok true w:=by
 simp [Op.equalIn,run_underlying h]
theorem Oc {P:Program} {t u:TypeId} {x:Value} {ms:Array (String×TypeId)} (h:P.underlying t=some (.interface ms)) (w:World):(Op.equal t (.iface u x) .nilIface).run P w= .ok false w:=ZS 9999 h w
theorem J5 {P:Program} {t:TypeId} {ms:Array (String×TypeId)} (h:P.underlying t=some (.interface ms)) (w:World):(Op.equal t .nilIface .nilIface).run P w= .ok true w:=fO 9999 h w
theorem Hx {P:Program} {t e:TypeId} {a:Addr} (h:P.underlying t=some (.pointer e)) (w:World):(Op.equal t (.pointer (some a)) (.pointer none)).run P w= .ok false w:=fP 9999 h w
theorem J6 {P:Program} {t e:TypeId} (h:P.underlying t=some (.pointer e)) (w:World):(Op.equal t (.pointer none) (.pointer none)).run P w= .ok true w:=fQ 9999 h w
theorem Xa {P:Program} {op:BinOp} {t:TypeId} {x y:V} {u v:Value} {w:World} {G:Au} {ox oy:Operand} (hx:Ab w G x u) (hy:Ab w G y v) (hs:(NE P op t (AL ox||AL oy) x y).1):
 ∃ r,Ab w G (NE P op t (AL ox||AL oy) x y).2 r∧ ∀ w',(do eqGuard op t ox oy u v;binOp op t u v).run P w'= .ok r w':=by
 unfold NE at *
 split at hs
 ·simp only [Ab,Ac]at hx hy
  subst hx hy
  exact⟨_,by simp only [Ab];exact(Ay (LF (P:=P) (t:=t) (ox:=ox) (oy:=oy) hs.1 hs.2 w).2).2 rfl,fun w'=>(LF hs.1 hs.2 w').1⟩
 ·simp only [Ab,Ac]at hx hy
  subst hx hy
  exact⟨_,by simp only [Ab];exact(Ay (LG (P:=P) (t:=t) (ox:=ox) (oy:=oy) hs w).2).2 rfl,fun w'=>(LG hs w').1⟩
 ·simp only [Ab,Ac]at hx hy
  subst hx hy
  split at hs
  ·exact⟨_,(Ay rfl).2 rfl,(by grind [eqGuard,run_eql_bool,Gp,EK])⟩
  ·exact⟨_,(Ay rfl).2 rfl,(by grind [eqGuard,run_neq_bool,Gp,EK])⟩
  grind
 ·simp only [Ab,Ac]at hx hy
  subst hx hy
  refine DA hs (by simp) (fun q w'=>?_) (fun q w'=>?_)
  ·have hk:=q.1
   cases ox<;>cases oy<;>simp_all [AL,eqGuard]<;>(try (split<;>rfl))
  grind [Hw,J5]
 ·simp only [Ab,Ac]at hx hy
  obtain⟨t',x',rfl⟩:=hx
  subst hy
  refine DA hs (by simp) (fun q w'=>?_) (fun q w'=>?_)
  ·simp_all [eqGuard]
  grind [Hw,Oc]
 ·simp only [Ab,Ac]at hx hy
  obtain⟨b,_,rfl⟩:=hx
  subst hy
  refine DA hs (by simp) (fun q w'=>?_) (fun q w'=>?_)
  ·simp_all [eqGuard]
  grind [FG,Hx]
 ·simp only [Ab,Ac]at hx hy
  obtain⟨_,b,o,rfl,_⟩:=hx
  subst hy
  refine DA hs (by simp) (fun q w'=>?_) (fun q w'=>?_)
  ·simp_all [eqGuard]
  grind [FG,Hx]
 ·simp only [Ab,Ac]at hx hy
  subst hx hy
  refine DA hs (by simp) (fun q w'=>?_) (fun q w'=>?_)
  ·simp_all [eqGuard]
  grind [FG,J6]
 grind
end Go.PL
namespace Go.PL
open Go Go.RowKit
abbrev no:Prop×V:=(False, .undef)
def fM (op:UnOp):V→Prop×V
 | .c (.int k n)=>match op with
   | .neg =>(True, .c (.int k (k.wrap (0 - n))))
   | .xor =>(True, .c (.int k (SV k (if k.signed then -1 else k.max) n)))
   | _=>no
 | .c (.bool b)=>match op with
   | .not =>(True, .c (.bool !b))
   | _=>no
 | _=>no
theorem Rt {P:Program} {op:UnOp} {x:V} {u:Value} {w:World} {G:Au} (hx:Ab w G x u) (hs:(fM op x).1):
 ∃ r,Ab w G (fM op x).2 r∧ ∀ w',(Op.unary op u).run P w'= .ok r w':=by
 unfold fM at *
 split at hs
 ·simp only [Ab,Ac]at hx;subst hx
  split at hs
  ·exact⟨_,(Ay rfl).2 rfl,(by simp_all [Op.unary,Op.intArith,EK])⟩
  ·exact⟨_,(Ay rfl).2 rfl,(by simp_all [Op.unary,Op.intBits,EK,SV])⟩
  grind
 ·simp only [Ab,Ac]at hx;subst hx
  split at hs
  ·exact⟨_,(Ay rfl).2 rfl,fun w'=>by simp [Op.unary,EK]⟩
  grind
 grind
def Ru (P:Program) (t:TypeId):Option IntKind:=
 match P.underlying t with
 | some (.int k)=>some k
 | _=>none
theorem Od {P:Program} {t:TypeId} {k:IntKind} (h:Ru P t=some k):P.underlying t=some (.int k):=by
 grind [Ru]
def ZT (P:Program) (t:TypeId):Bool:=(P.underlying t).isSome
def bytesOf:List C→Option (List UInt8)
 | []=>some []
 | .int .u8 n::cs=>match bytesOf cs with
   | some bs=>if 0≤n∧n<256 then some (UInt8.ofNat n.toNat::bs)else none
   | none=>none
 | _=>none
def Jl:List C→List UInt8
 | []=>[]
 | .int _ n::cs=>UInt8.ofNat n.toNat::Jl cs
 | _::cs=>Jl cs
def J7:List C→Prop
 | []=>True
 | .int .u8 n::cs=>(0≤n∧n<256)∧J7 cs
 | _=>False
theorem Oe: ∀ {cs:List C},J7 cs→bytesOf cs=some (Jl cs)
 | [],_=>rfl
 | c::cs,h=>by
   unfold J7 at h
   split at h
   ·cases ‹_=([]:List C)›
   ·rename_i n cs' he
    injection he with h1 h2;subst h1 h2
    simp [bytesOf,Oe h.2,h.1,Jl]
   ·exact h.elim
def H9 (P:Program) (t:TypeId):Bool:=
 match P.underlying t with
 | some (.slice e)=>match P.underlying e with
   | some (.int .u8)=>true
   | _=>false
 | _=>false
def Gr (P:Program) (src dst:TypeId) (st:St):V→Prop×V
 | .c (.int _ n)=>match Ru P dst with
   | some k=>(ZT P src=true, .c (.int k (k.wrap n)))
   | none=>no
 | .c (.str s)=>(Cj P src=true∧Cj P dst=true, .c (.str s))
 | .c (.osl id)=>match st.look id with
   | some e=>match e.row with
     | some (_,n,_)=>((H9 P src=true∧Cj P dst=true)∧n=1∧J7 e.cs, .c (.str (Jl e.cs)))
     | _=>no
   | none=>no
 | _=>no
theorem LH {P:Program} {t:TypeId} (h:H9 P t=true): ∃ e,P.underlying t=some (.slice e)∧P.underlying e=some (.int .u8):=by
 grind [H9]
theorem J8 {w:World} {G:Au}: ∀ {cs:List C} {bs:List UInt8} {vs:List Value},bytesOf cs=some bs→Ag w G cs vs→vs=bs.map (fun b=>Value.int .u8 b.toNat)
 | [],bs,vs,h,hr=>by
   simp [bytesOf]at h;subst h
   cases vs<;>simp_all [Ag]
 | c::cs,bs,vs,h,hr=>by
   cases vs with
   | nil=>simp [Ag]at hr
   | cons v vs=>
     simp only [Ag]at hr
     unfold bytesOf at h
     split at h
     ·grind
     ·rename_i n cs' he
      injection he with h1 h2;subst h1 h2
      split at h
      ·rename_i bs' hb
       split at h
       ·rename_i hn
        injection h with h;subst h
        have:=J8 hb hr.2
        simp only [Ac]at hr
        rw [hr.1,this]
        simp only [List.map_cons,List.cons.injEq,and_true,Value.int.injEq,true_and]
        have:(UInt8.ofNat n.toNat).toNat =n.toNat:=by simp;omega
        grind
       ·cases h
      ·cases h
     ·cases h
theorem U5 {P:Program} {F:Fr} {st:St} {a:Act} {w:World} {G:Au} (h:R F st a w G) {src dst:TypeId} {x:V} {u:Value} (hx:Ab w G x u) (hs:(Gr P src dst st x).1):
 ∃ r,Ab w G (Gr P src dst st x).2 r∧ ∀ w',BY w w'→(convert src dst u).run P w'= .ok r w':=by
 unfold Gr at *
 split at hs
 ·simp only [Ab,Ac]at hx;subst hx
  split at hs
  ·rename_i k hk
   unfold ZT at hs
   cases hu:P.underlying src with
   | none=>grind
   | some d=>exact⟨_,(Ay rfl).2 rfl,(by simp_all [convert,run_underlying,Od,Conv.intToInt,EK])⟩
  grind
 ·simp only [Ab,Ac]at hx;subst hx
  exact⟨_,(Ay rfl).2 rfl,(by simp_all [convert,run_underlying,BM,EK])⟩
 ·rename_i id
  split at hs
  ·rename_i e he
   split at hs
   ·rename_i E n len hrow
    obtain⟨hs,rfl,hbs⟩:=hs
    have hb:=Oe hbs
    generalize Jl e.cs=bs at *
    obtain⟨t,hs1,hs2⟩:=LH hs.1
    have hd:=BM hs.2
    obtain⟨hm,hid⟩:=AK he
    have hE:=h.store e hm
    unfold AJ at hE
    rw [hrow]at hE
    obtain⟨hl,v,hown,hcase⟩:=hE
    simp only [Ab,Ac]at hx
    rw [hid]at hown
    rw [hown]at hx
    obtain⟨hx,_⟩:=hx
    injection hx with hx;subst hx
    refine⟨.string ⟨bs.toArray⟩,(Ay rfl).2 rfl,fun w' hw'=>?_⟩
    rcases hcase with ⟨p,rfl,h0,_⟩ | ⟨b,cap,cur,rfl,_,_,_,_,_,hr⟩
    ·have:e.cs=[]:=by grind
     rw [this]at hb;simp [bytesOf]at hb;subst hb
     cases p with
     | none=>exact run_convert_bytes_nil w' src t hs1 hs2 0 0 dst hd
     | some p=>exact run_convert_bytes_back w' src dst t p 0 [] hs1 hs2 hd (fun j hj=>by simp at hj)
    ·obtain⟨vs,h1,h2⟩:=hr.list
     have hv:=J8 hb h1
     have hlen:bs.length=len:=by
      have:=h1.length;grind
     rw [←hlen]
     refine run_convert_bytes_back w' src dst t ⟨b,0,none⟩ cap bs hs1 hs2 hd ?_
     intro j hj
     rw [Addr.add_mid]
     simpa using hw'.range h2 j (.int .u8 bs[j].toNat) (by grind)
   grind
  grind
 grind
theorem Of {P:Program} {t:TypeId} {f o n:Nat} {ag:Bool} (h:ZR P t f=some (o,ag,n)):
 ∃ fs x,P.underlying t=some (.struct fs)∧fs[f]? =some x∧x.offset=o∧Fd P x.type=some (ag,n):=by
 unfold ZR at h
 grind
def Bh (P:Program) (s:TypeId) (f:Nat):V→Prop×V
 | .c (.ptr id off)=>match ZR P s f with
   | some (o,_,n)=>(0<n, .c (.ptr id (off+o)))
   | none=>no
 | .c (.iptr cs off)=>match ZR P s f with
   | some (o,_,n)=>(0<n, .c (.iptr cs (off+o)))
   | none=>no
 | _=>no
theorem run_fieldAt' {P:Program} {s:TypeId} {f o n:Nat} {ag:Bool} (h:ZR P s f=some (o,ag,n)) (hn:0<n) (b off:Nat) (w:World):
 (Instr.fieldAt s (.pointer (some ⟨b,off,none⟩)) f).run P w= .ok (.pointer (some ⟨b,off+o,none⟩)) w:=by
 obtain⟨fs,x,h1,h2,h3,h4⟩:=Of h
 obtain⟨d,i,hu,_,hi,hsz⟩:=Br h4
 simp only [Instr.fieldAt,Sem.run_bind,run_underlying h1,Result.andThen_ok,h2,Instr.sureAddr,Sem.run_pure,fieldPlace,sizeOf,typeInfo]
 have: ¬i.size=0:=by omega
 simp_all [Addr.add_mid]
theorem GW {P:Program} {s:TypeId} {f:Nat} {x:V} {u:Value} {w:World} {G:Au} (hx:Ab w G x u) (hs:(Bh P s f x).1):
 ∃ r,Ab w G (Bh P s f x).2 r∧ ∀ w',(Instr.fieldAt s u f).run P w'= .ok r w':=by
 unfold Bh at *
 split at hs
 ·split at hs
  ·rename_i o ag n hf
   simp only [Ab,Ac]at hx ⊢
   obtain⟨b,hb,rfl⟩:=hx
   exact⟨_,⟨b,hb,rfl⟩,fun w'=>run_fieldAt' hf hs b _ w'⟩
  grind
 ·split at hs
  ·rename_i o ag n hf
   simp only [Ab,Ac]at hx ⊢
   obtain⟨hp,b,o',rfl,h1,h2,h3⟩:=hx
   exact⟨_,⟨hp,b,o',rfl,h1,h2,h3⟩,fun w'=>by rw [run_fieldAt' hf hs b _ w',Nat.add_assoc]⟩
  grind
 grind
theorem run_part' {P:Program} {t:TypeId} {ag:Bool} {n:Nat} (ht:Fd P t=some (ag,n)) {w:World} {G:Au} {cs:List C} {arr:Array Value} (h:Ag w G cs arr.toList) {off:Nat} (hb:off+n≤cs.length) (h0:ag=true∨0<n):
 ∃ r,Ab w G (toV ag off n cs) r∧ ∀ w',(part t arr off).run P w'= .ok r w':=by
 obtain⟨d,i,hu,hd,hi,hsz⟩:=Br ht
 have hagg: ∀ w',(isAgg t).run P w'= .ok ag w':=by
  intro w'
  unfold isAgg
  rw [Sem.run_bind,run_underlying hu w']
  cases d<;>simp_all
 have hlen:=h.length
 unfold toV
 cases hag:ag with
 | true=>
   refine⟨.agg (arr.extract off (off+n)),⟨_,rfl,?_⟩,fun w'=>?_⟩
   ·have:=(h.drop off).take n
    simp_all
   simp_all [part,sizeOf,typeInfo]
 | false=>
   have nl:0<n:=by grind
   have hlt:off<cs.length:=by omega
   obtain⟨v,hv,hr⟩:=h.get off cs[off] (by simp [hlt])
   refine⟨v,by grind [Ab],fun w'=>?_⟩
   simp_all [part]
def FH (P:Program) (t:TypeId) (f:Nat):V→Prop×V
 | .agg cs=>match ZR P t f with
   | some (o,ag,n)=>(o+n≤cs.length∧(ag=true∨0<n),toV ag o n cs)
   | none=>no
 | _=>no
theorem SX {P:Program} {t:TypeId} {f:Nat} {x:V} {u:Value} {w:World} {G:Au} (hx:Ab w G x u) (hs:(FH P t f x).1):
 ∃ r,Ab w G (FH P t f x).2 r∧ ∀ w',(Instr.field t u f).run P w'= .ok r w':=by
 unfold FH at *
 split at hs
 ·split at hs
  ·rename_i o ag n hf
   simp only [Ab]at hx
   obtain⟨arr,rfl,hr⟩:=hx
   obtain⟨fs,y,h1,h2,h3,h4⟩:=Of hf
   simp_all [run_part',Instr.field,run_underlying,asAgg]
  grind
 grind
def Bu (P:Program) (t:TypeId) (st:St) (x y:V):Prop×V:=
 match y with
 | .c (.int _ i)=>match x with
   | .c (.sl len cs)=>match BZ P t with
     | some (_,n)=>(0≤i∧i<len, .c (.iptr cs (i.toNat*n)))
     | none=>no
   | .c (.osl id)=>match BZ P t,st.lookR id with
     | some (_,n),some e=>match e.row with
       | some (_,_,len)=>(0≤i∧i<len, .c (.ptr id (i.toNat*n)))
       | none=>no
     | _,_=>no
   | .c (.bsl id off len)=>match BZ P t with
     | some (_,n)=>(0≤i∧i<len, .c (.ptr id (off+i.toNat*n)))
     | none=>no
   | .c (.ptr id off)=>match CL P t with
     | some (k,_,n)=>(0≤i∧i<k, .c (.ptr id (off+i.toNat*n)))
     | none=>no
   | .c (.iptr cs off)=>match CL P t with
     | some (k,_,n)=>(0≤i∧i<k, .c (.iptr cs (off+i.toNat*n)))
     | none=>no
   | _=>no
 | _=>no
theorem Ck {P:Program} {t e:TypeId} {n:Nat} (h:BZ P t=some (e,n)) (b o len cap:Nat) (k:IntKind) (i:Int) (h0:0≤i) (h1:i<len) (w:World):
 (Instr.indexAt t (.slice (some ⟨b,o,none⟩) len cap) (.int k i)).run P w= .ok (.pointer (some ⟨b,o+i.toNat*n,none⟩)) w:=by
 obtain⟨hu,inf,hi,hsz⟩:=BL h
 simp [Instr.indexAt,asIntOf,Sem.run_bind,run_underlying hu,h0,h1,sizeOf,typeInfo,program,Sem.run,hi,hsz,Addr.add_mid]
theorem CM {P:Program} {t e:TypeId} {m n:Nat} (h:CL P t=some (m,e,n)) (b o:Nat) (k:IntKind) (i:Int) (h0:0≤i) (h1:i<m) (w:World):
 (Instr.indexAt t (.pointer (some ⟨b,o,none⟩)) (.int k i)).run P w= .ok (.pointer (some ⟨b,o+i.toNat*n,none⟩)) w:=by
 obtain⟨hu,inf,hi,hsz⟩:=Eh h
 simp [Instr.indexAt,asIntOf,Sem.run_bind,run_underlying hu,h0,h1,sizeOf,typeInfo,program,Sem.run,hi,hsz,Addr.add_mid,Instr.sureAddr]
theorem GX {P:Program} {F:Fr} {st:St} {a:Act} {w:World} {G:Au} (h:R F st a w G) {t:TypeId} {x y:V} {u v:Value} (hx:Ab w G x u) (hy:Ab w G y v) (hs:(Bu P t st x y).1):
 ∃ r,Ab w G (Bu P t st x y).2 r∧ ∀ w',(Instr.indexAt t u v).run P w'= .ok r w':=by
 unfold Bu at *
 split at hs
 ·rename_i k i
  simp only [Ab,Ac]at hy;subst hy
  split at hs
  ·split at hs
   ·rename_i len cs e n hse
    simp only [Ab,Ac]at hx ⊢
    obtain⟨hp,ad,cap,rfl,_,_,_,h0 | ⟨b,o,rfl,h1,h2,h3⟩⟩:=hx
    ·omega
    ·exact⟨_,⟨hp,b,o,rfl,h1,h2,h3⟩,(by grind [Ck])⟩
   grind
  ·rename_i id
   split at hs
   ·rename_i e n en hse hlk
    split at hs
    ·rename_i E n' len hrow
     obtain⟨hm,hid⟩:=LD hlk
     have hE:=h.store en hm
     unfold AJ at hE
     rw [hrow]at hE
     obtain⟨hl,v,hown,hcase⟩:=hE
     simp only [Ab,Ac]at hx ⊢
     rw [hid]at hown
     rw [hown]at hx
     obtain⟨hx,_⟩:=hx
     injection hx with hx;subst hx
     rcases hcase with ⟨_,h0,_⟩ | ⟨b,cap,cur,rfl,hb,_⟩
     ·omega
     ·refine⟨_,⟨b,by rw [←hid];exact hb,rfl⟩,fun w'=>?_⟩
      simpa using Ck hse b 0 len cap k i hs.1 hs.2 w'
    grind
   grind
  ·rename_i id off len
   split at hs
   ·rename_i e n hse
    simp only [Ab,Ac]at hx ⊢
    obtain⟨b,cap,o,hb,rfl,hc,_,ho⟩:=hx
    have ho:o=off:=(by grind)
    subst ho
    exact⟨_,⟨b,hb,rfl⟩,(by grind [Ck])⟩
   grind
  ·split at hs
   ·rename_i m e n hae
    simp only [Ab,Ac]at hx ⊢
    obtain⟨b,hb,rfl⟩:=hx
    exact⟨_,⟨b,hb,rfl⟩,(by grind [CM])⟩
   grind
  ·split at hs
   ·rename_i m e n hae
    simp only [Ab,Ac]at hx ⊢
    obtain⟨hp,b,o,rfl,h1,h2,h3⟩:=hx
    exact⟨_,⟨hp,b,o,rfl,h1,h2,h3⟩,(by grind [CM])⟩
   grind
  grind
 grind
def E9 (P:Program) (t:TypeId) (x y:V):Prop×V:=
 match y with
 | .c (.int _ i)=>match x with
   | .c (.str s)=>(Cj P t=true∧0≤i∧i<s.length, .c (.int .u8 (s.getD i.toNat 0).toNat))
   | .agg cs=>match CL P t with
     | some (k,e,n)=>match Fd P e with
       | some (ag,_)=>(0≤i∧i<k∧i.toNat*n+n≤cs.length∧0<n,toV ag (i.toNat*n) n cs)
       | none=>no
     | none=>no
   | _=>no
 | _=>no
theorem SY {P:Program} {t:TypeId} {x y:V} {u v:Value} {w:World} {G:Au} (hx:Ab w G x u) (hy:Ab w G y v) (hs:(E9 P t x y).1):
 ∃ r,Ab w G (E9 P t x y).2 r∧ ∀ w',(Instr.index t u v).run P w'= .ok r w':=by
 unfold E9 at *
 split at hs
 ·rename_i k i
  simp only [Ab,Ac]at hy;subst hy
  split at hs
  ·simp only [Ab,Ac]at hx;subst hx
   obtain⟨h1,h2,h3⟩:=hs
   rename_i s
   refine⟨_,(Ay rfl).2 rfl,fun w'=>?_⟩
   have hlt:i.toNat<s.length:=by omega
   have hg:(⟨s.toArray⟩:ByteArray)[i.toNat]? =some s[i.toNat]:=by
    rw [getElem?_pos _ _ (by simpa [ByteArray.size] using hlt)]
    rfl
   simp_all [Instr.index,asIntOf,run_underlying,BM,EK]
  ·split at hs
   ·rename_i m e n hae
    split at hs
    ·rename_i ag n' hts
     obtain⟨hu,inf,hi,hsz⟩:=Eh hae
     obtain⟨d,inf',hu',hd,hi',hsz'⟩:=Br hts
     rw [hi]at hi';injection hi' with hi';subst hi'
     have hnn:n'=n:=by omega
     subst hnn
     simp only [Ab]at hx
     obtain⟨arr,rfl,hr⟩:=hx
     obtain⟨r,q1,q2⟩:=run_part' hts hr hs.2.2.1 (.inr hs.2.2.2)
     simp_all [Instr.index,asIntOf,run_underlying,sizeOf,typeInfo]
    grind
   grind
  grind
 grind
end Go.PL
namespace Go.PL
open Go Go.RowKit
def QG (len:Nat) (lo hi:Option V):Option (Int×Int):=
 match lo,hi with
 | none,none=>some (0,len)
 | some (.c (.int _ l)),none=>some (l,len)
 | none,some (.c (.int _ h))=>some (0,h)
 | some (.c (.int _ l)),some (.c (.int _ h))=>some (l,h)
 | _,_=>none
def Ei (P:Program) (t:TypeId) (x:V) (lo hi:Option V):Prop×V:=
 match x with
 | .c (.str s)=>match QG s.length lo hi with
   | some (l,h)=>(Cj P t=true∧0≤l∧l≤h∧h≤s.length, .c (.str ((s.drop l.toNat).take (h.toNat - l.toNat))))
   | none=>no
 | .c (.sl len cs)=>match BZ P t,QG len lo hi with
   | some (_,n),some (l,h)=>(0≤l∧l≤h∧h≤len∧cs.length=len*n, .c (.sl (h.toNat - l.toNat) ((cs.drop (l.toNat*n)).take ((h.toNat - l.toNat)*n))))
   | _,_=>no
 | .c (.ptr id off)=>match CL P t,QG (match CL P t with
  | some (k,_,_)=>k
  | none=>0) lo hi with
  | some (k,_,n),some (l,h)=>(0≤l∧l<k∧l≤h∧h≤k, .c (.bsl id (off+l.toNat*n) (h.toNat - l.toNat)))
  | _,_=>no
 | _=>no
def FI (w:World) (G:Au):Option V→Option Value→Prop
 | none,none=>True
 | some x,some v=>Ab w G x v
 | _,_=>False
theorem run_sliceBound' {P:Program} (w:World) (k:IntKind) (i:Int) (y:Nat) (code:BoundsCode) (h0:0≤i) (h1:i≤y):
 (Instr.sliceBound (.int k i) y code).run P w= .ok i.toNat w:=by
 simp_all [Instr.sliceBound,asIntOf]
theorem Og {P:Program} {w:World} {G:Au} {len cap:Nat} {lo hi:Option V} {lv hv:Option Value} {l h:Int} (sl:Bool) (hb:QG len lo hi=some (l,h)) (h1:FI w G lo lv) (h2:FI w G hi hv)
 (q1:0≤l) (q2:l≤h) (q3:h≤len) (q4:len≤cap): ∀ w',(Instr.sliceBounds sl len cap lv hv none).run P w'= .ok (l.toNat,h.toNat,cap) w':=by
 intro w'
 unfold QG at hb
 split at hb
 ·simp only [Option.some.injEq,Prod.mk.injEq]at hb;obtain⟨rfl,rfl⟩:=hb
  cases lv<;>cases hv<;>simp only [FI]at h1 h2
  simp [Instr.sliceBounds]
 ·rename_i k1 l1
  simp only [Option.some.injEq,Prod.mk.injEq]at hb;obtain⟨rfl,rfl⟩:=hb
  cases lv<;>cases hv<;>simp only [FI,Ab,Ac]at h1 h2
  simp_all [run_sliceBound',Instr.sliceBounds]
 ·rename_i k2 l2
  simp only [Option.some.injEq,Prod.mk.injEq]at hb;obtain⟨rfl,rfl⟩:=hb
  cases lv<;>cases hv<;>simp only [FI,Ab,Ac]at h1 h2
  subst h2
  have e2:=fun code=>run_sliceBound' (P:=P) w' k2 l2 cap code (by omega) (by omega)
  simp [Instr.sliceBounds,e2]
 ·rename_i k1 l1 k2 l2
  simp only [Option.some.injEq,Prod.mk.injEq]at hb;obtain⟨rfl,rfl⟩:=hb
  cases lv<;>cases hv<;>simp only [FI,Ab,Ac]at h1 h2
  subst h1 h2
  have e1:=fun code=>run_sliceBound' (P:=P) w' k1 l1 l2.toNat code q1 (by omega)
  have e2:=fun code=>run_sliceBound' (P:=P) w' k2 l2 cap code (by omega) (by omega)
  simp_all [Instr.sliceBounds]
 ·cases hb
theorem SZ {P:Program} {t:TypeId} {x:V} {lo hi:Option V} {u:Value} {lv hv:Option Value} {w:World} {G:Au} (hx:Ab w G x u) (h1:FI w G lo lv) (h2:FI w G hi hv) (hs:(Ei P t x lo hi).1):
 ∃ r,Ab w G (Ei P t x lo hi).2 r∧ ∀ w',(Instr.sliceAt t u lv hv none).run P w'= .ok r w':=by
 unfold Ei at *
 split at hs
 ·rename_i s
  split at hs
  ·rename_i l h hb
   simp only [Ab,Ac]at hx;subst hx
   obtain⟨q0,q1,q2,q3⟩:=hs
   refine⟨_,(Ay rfl).2 rfl,fun w'=>?_⟩
   have e:(⟨s.toArray⟩:ByteArray).extract l.toNat h.toNat=⟨((s.drop l.toNat).take (h.toNat - l.toNat)).toArray⟩:=by
    apply ByteArray.ext
    simp_all
   have:=Og (P:=P) (w:=w) (G:=G) false (len:=s.length) (cap:=s.length) hb h1 h2 q1 q2 q3 (Nat.le_refl _) w'
   simp_all [Instr.sliceAt,Instr.slice,run_underlying,BM,Ob,EK]
  grind
 ·rename_i len cs
  split at hs
  ·rename_i e n l h hse hb
   obtain⟨q1,q2,q3,q4⟩:=hs
   obtain⟨hu,inf,hi',hsz⟩:=BL hse
   simp only [Ab,Ac]at hx ⊢
   obtain⟨hp,ad,cap,rfl,c1,c2,c3,c4⟩:=hx
   have hr:=fun w'=>Og (P:=P) (w:=w) (G:=G) true (len:=len) (cap:=cap) hb h1 h2 q1 q2 q3 c1 w'
   refine⟨.slice (if cap=l.toNat then ad else ad.map (·.add (l.toNat*n))) (h.toNat - l.toNat) (cap - l.toNat),⟨Hs _ (Ht _ hp),_,_,rfl,by omega,by omega,?_,?_⟩,fun w'=>?_⟩
   ·simp_all
   ·by_cases hz:h.toNat - l.toNat=0
    ·grind
    ·right
     rcases c4 with c4 | ⟨b,o,rfl,k1,k2,k3⟩
     ·omega
     ·have hne: ¬cap=l.toNat:=by omega
      refine⟨b,o+l.toNat*n,?_,k1,k2,?_⟩
      ·simp_all [Addr.add_mid]
      ·exact(k3.drop (l.toNat*n)).take _
   simp_all [Instr.sliceAt,Instr.slice,run_underlying,sizeOf,typeInfo]
  grind
 ·rename_i id off
  split at hs
  ·rename_i k e n l h hae hb
   obtain⟨q1,q2,q3,q4⟩:=hs
   obtain⟨hu,inf,hi',hsz⟩:=Eh hae
   simp only [hae]at hb
   simp only [Ab,Ac]at hx ⊢
   obtain⟨b,hb1,rfl⟩:=hx
   have hr:=fun sl w'=>Og (P:=P) (w:=w) (G:=G) sl (len:=k) (cap:=k) hb h1 h2 q1 q3 q4 (Nat.le_refl _) w'
   have hne: ¬k=l.toNat:=by omega
   refine⟨.slice (some (if k=l.toNat then⟨b,off,none⟩else(⟨b,off,none⟩:Addr).add (l.toNat*n))) (h.toNat - l.toNat) (k - l.toNat),⟨b,k - l.toNat,off+l.toNat*n,hb1,?_,by omega,Nat.le_refl _, .inr rfl⟩,fun w'=>?_⟩
   ·simp_all [Addr.add_mid]
   simp_all [Instr.sliceAt,Instr.sureAddr,run_underlying,sizeOf,typeInfo]
  grind
 grind
def BV (P:Program) (t:TypeId):Bool:=
 match P.underlying t with
 | some (.slice _)=>true
 | _=>false
def Jm (P:Program) (t:TypeId) (st:St) (x:V):Prop×V:=
 match x with
 | .c (.str s)=>(Cj P t=true, .c (.int .i64 s.length))
 | .c (.sl len _)=>(BV P t=true, .c (.int .i64 len))
 | .c (.osl id)=>match st.lookR id with
   | some e=>match e.row with
     | some (_,_,len)=>(BV P t=true, .c (.int .i64 len))
     | none=>no
   | none=>no
 | .c (.bsl _ _ len)=>(BV P t=true, .c (.int .i64 len))
 | .c (.rsl _ _ _ len)=>(BV P t=true, .c (.int .i64 len))
 | _=>match CL P t with
   | some (k,_,_)=>(True, .c (.int .i64 k))
   | none=>no
theorem Bi {P:Program} {t:TypeId} (h:BV P t=true): ∃ e,P.underlying t=some (.slice e):=by
 grind [BV]
theorem ZU {F:Fr} {st:St} {a:Act} {w:World} {G:Au} (h:R F st a w G) {id:Ae} {e:Ak} (he:st.lookR id=some e) {E n len:Nat} (hrow:e.row=some (E,n,len)) {u:Value} (hx:Ac w G (.osl id) u):
 ∃ ad cap,u= .slice ad len cap:=by
 obtain⟨hm,hid⟩:=LD he
 have hE:=h.store e hm
 unfold AJ at hE
 rw [hrow]at hE
 obtain⟨hl,v,hown,hcase⟩:=hE
 simp only [Ac]at hx
 grind
theorem Xb {P:Program} {F:Fr} {st:St} {a:Act} {w:World} {G:Au} (h:R F st a w G) {t ty:TypeId} {x:V} {u:Value} (hx:Ab w G x u) (hs:(Jm P t st x).1):
 ∃ r,Ab w G (Jm P t st x).2 r∧ ∀ w',(Builtin.len_ #[t] ty #[u]).run P w'= .ok r w':=by
 unfold Jm at *
 split at hs
 ·simp only [Ab,Ac]at hx;subst hx
  exact⟨_,(Ay rfl).2 rfl,(by simp_all [Builtin.len_,run_underlying,BM,goInt,Ob,EK])⟩
 ·obtain⟨e,he⟩:=Bi hs
  simp only [Ab,Ac]at hx
  obtain⟨_,ad,cap,rfl,_⟩:=hx
  exact⟨_,(Ay rfl).2 rfl,(by simp_all [Builtin.len_,run_underlying,goInt,EK])⟩
 ·split at hs
  ·rename_i e hlk
   split at hs
   ·rename_i E n len hrow
    obtain⟨el,he⟩:=Bi hs
    obtain⟨ad,cap,rfl⟩:=ZU h hlk hrow (by simpa [Ab] using hx)
    exact⟨_,(Ay rfl).2 rfl,(by simp_all [Builtin.len_,run_underlying,goInt,EK])⟩
   grind
  grind
 ·obtain⟨e,he⟩:=Bi hs
  simp only [Ab,Ac]at hx
  obtain⟨b,cap,o,hb,rfl,hc,_⟩:=hx
  exact⟨_,(Ay rfl).2 rfl,(by simp_all [Builtin.len_,run_underlying,goInt,EK])⟩
 ·obtain⟨e,he⟩:=Bi hs
  simp only [Ab,Ac]at hx
  obtain⟨_,_,_,_,_,_,rfl,_⟩:=hx
  exact⟨_,(Ay rfl).2 rfl,(by simp_all [Builtin.len_,run_underlying,goInt,EK])⟩
 ·split at hs
  ·rename_i k el n hae
   obtain⟨hu,_⟩:=Eh hae
   exact⟨_,(Ay rfl).2 rfl,(by simp_all [Builtin.len_,run_underlying,goInt,EK])⟩
  grind
def FJ:List V→Option (IntKind×Int×List Int)
 | [.c (.int k x)]=>some (k,x,[])
 | .c (.int k x)::vs=>match FJ vs with
   | some (_,y,ys)=>some (k,x,y::ys)
   | none=>none
 | _=>none
def S0 (vs:List V):Prop×V:=
 match FJ vs with
 | some (k,x,ys)=>(True, .c (.int k (ys.foldl (fun a y=>if y<a then y else a) x)))
 | none=>no
def S1 (vs:List V):Prop×V:=
 match FJ vs with
 | some (k,x,ys)=>(True, .c (.int k (ys.foldl (fun a y=>if a<y then y else a) x)))
 | none=>no
theorem Jn {w:World} {G:Au}: ∀ {vs:List V} {us:List Value} {k:IntKind} {x:Int} {ys:List Int},FJ vs=some (k,x,ys)→An w G vs us→
 ∃ ks:List IntKind,us= .int k x::(ks.zip ys).map (fun p=>Value.int p.1 p.2)∧ks.length=ys.length
 | [],us,k,x,ys,h,_=>by simp [FJ]at h
 | [v],us,k,x,ys,h,hr=>by
   unfold FJ at h
   split at h
   ·rename_i k' x' he
    injection he with he _;subst he
    simp only [Option.some.injEq,Prod.mk.injEq]at h
    obtain⟨rfl,rfl,rfl⟩:=h
    simp only [An,Ab,Ac]at hr
    simp_all
   all_goals grind
 | v::v2::vs,us,k,x,ys,h,hr=>by
   unfold FJ at h
   split at h
   ·grind
   ·rename_i k' x' vs' hne he
    injection he with he1 he2
    subst he1 he2
    split at h
    ·rename_i k2 y ys' q
     simp only [Option.some.injEq,Prod.mk.injEq]at h
     obtain⟨rfl,rfl,rfl⟩:=h
     rw [An]at hr
     obtain⟨u,r,rfl,h1,h2⟩:=hr
     simp only [Ab,Ac]at h1;subst h1
     obtain⟨ks,e,hl⟩:=Jn q h2
     exact⟨k2::ks,by rw [e];simp,by simp [hl]⟩
    ·cases h
   ·cases h
theorem J9 {P:Program} (w:World) (k:IntKind): ∀ (ks:List IntKind) (ys:List Int) (x:Int),ks.length=ys.length→
 (((ks.zip ys).map (fun p=>Value.int p.1 p.2)).foldlM Builtin.min2 (.int k x)).run P w= .ok (.int k (ys.foldl (fun a y=>if y<a then y else a) x)) w
 | [],[],x,_=>by simp
 | [],_::_,_,h=>by simp at h
 | _::_,[],_,h=>by simp at h
 | k'::ks,y::ys,x,h=>by
   simp only [List.zip_cons_cons,List.map_cons,List.foldlM_cons,List.foldl_cons,Sem.run_bind,Builtin.min2,Sem.run_pure,Result.andThen_ok]
   exact J9 w k ks ys _ (by simpa using h)
theorem Kw {P:Program} (w:World) (k:IntKind): ∀ (ks:List IntKind) (ys:List Int) (x:Int),ks.length=ys.length→
 (((ks.zip ys).map (fun p=>Value.int p.1 p.2)).foldlM Builtin.max2 (.int k x)).run P w= .ok (.int k (ys.foldl (fun a y=>if a<y then y else a) x)) w
 | [],[],x,_=>by simp
 | [],_::_,_,h=>by simp at h
 | _::_,[],_,h=>by simp at h
 | k'::ks,y::ys,x,h=>by
   simp only [List.zip_cons_cons,List.map_cons,List.foldlM_cons,List.foldl_cons,Sem.run_bind,Builtin.max2,Sem.run_pure,Result.andThen_ok]
   exact Kw w k ks ys _ (by simpa using h)
theorem Oh {P:Program} {vs:List V} {us:Array Value} {w:World} {G:Au} {ts:Array TypeId} {ty:TypeId} (hx:An w G vs us.toList) (hs:(S0 vs).1):
 ∃ r,Ab w G (S0 vs).2 r∧ ∀ w',(Builtin.min_ ts ty us).run P w'= .ok r w':=by
 unfold S0 at *
 split at hs
 ·rename_i k x ys h
  obtain⟨ks,e,hl⟩:=Jn h hx
  exact⟨_,(Ay rfl).2 rfl,fun w'=>by simp only [Builtin.min_,e];exact J9 w' k ks ys x hl⟩
 grind
theorem Oi {P:Program} {vs:List V} {us:Array Value} {w:World} {G:Au} {ts:Array TypeId} {ty:TypeId} (hx:An w G vs us.toList) (hs:(S1 vs).1):
 ∃ r,Ab w G (S1 vs).2 r∧ ∀ w',(Builtin.max_ ts ty us).run P w'= .ok r w':=by
 unfold S1 at *
 split at hs
 ·rename_i k x ys h
  obtain⟨ks,e,hl⟩:=Jn h hx
  exact⟨_,(Ay rfl).2 rfl,fun w'=>by simp only [Builtin.max_,e];exact Kw w' k ks ys x hl⟩
 grind
end Go.PL
namespace Go.PL
open Go Go.RowKit
def bnd (p:Prop×V) (f:V→Prop×V):Prop×V:=(p.1∧(f p.2).1,(f p.2).2)
def St.args (st:St) (g:Bool):List Operand→Prop×List V
 | []=>(True,[])
 | x::xs=>((st.arg g x).1∧(st.args g xs).1,(st.arg g x).2::(st.args g xs).2)
def Jo:V→Option (Bool×Bool)
 | .c (.bool q)=>some (true,q)
 | .g c (.c (.bool q))=>some (c,q)
 | _=>none
def Oj (p:Bool) (a b:V):Prop×V:=
 match Jo a,Jo b with
 | some (ca,q),some (cb,r)=>((p=true→ca=true)∧(p=false→cb=true), .c (.bool (if p then q else r)))
 | _,_=>no
def QH:V→Prop×V
 | .c (.ptr id off)=>(True, .c (.ptr id off))
 | .c (.iptr cs off)=>(True, .c (.iptr cs off))
 | .c (.fn f)=>(True, .c (.fn f))
 | .c (.clo f cs)=>(True, .c (.clo f cs))
 | .c (.bmv f cs)=>(True, .c (.bmv f cs))
 | _=>no
def Xc (i:Nat):V→Prop×V
 | .tup vs=>(i<vs.length,vs.getD i .undef)
 | _=>no
def B2 (st:St) (g:Bool):Option Operand→Prop×Option V
 | none=>(True,none)
 | some x=>((st.arg g x).1,some (st.arg g x).2)
def Jp (P:Program) (st:St) (g:Bool) (b:Builtin) (xs:List Operand) (ts:List TypeId):Prop×V:=
 match b,xs,ts with
 | .len,[x],[t]=>bnd (st.arg g x) (Jm P t st)
 | .min,xs,_=>((st.args g xs).1∧(S0 (st.args g xs).2).1,(S0 (st.args g xs).2).2)
 | .max,xs,_=>((st.args g xs).1∧(S1 (st.args g xs).2).1,(S1 (st.args g xs).2).2)
 | _,_,_=>no
def rd (P:Program) (st:St) (g:Bool):Op→Prop×V
 | .move x=>st.arg g x
 | .assign x=>st.arg g x
 | .pick c a b=>bnd (st.arg g c) fun p=>match p with
   | .c (.bool q)=>Oj q (st.ev a) (st.ev b)
   | _=>no
 | .load t x=>bnd (st.arg g x) (Cy P t st)
 | .nilCheck x=>bnd (st.arg g x) QH
 | .binOp op t x y _=>bnd (st.arg g x) fun u=>bnd (st.arg g y) fun v=>NE P op t (AL x||AL y) u v
 | .unOp op _ x=>bnd (st.arg g x) (fM op)
 | .convert src dst x=>bnd (st.arg g x) (Gr P src dst st)
 | .slice t x lo hi none=>bnd (st.arg g x) fun u=>((B2 st g lo).1∧(B2 st g hi).1∧(Ei P t u (B2 st g lo).2 (B2 st g hi).2).1,(Ei P t u (B2 st g lo).2 (B2 st g hi).2).2)
 | .fieldAddr s x f=>bnd (st.arg g x) (Bh P s f)
 | .field t x f=>bnd (st.arg g x) (FH P t f)
 | .indexAddr t x i=>bnd (st.arg g x) fun u=>bnd (st.arg g i) fun v=>Bu P t st u v
 | .index t x i=>bnd (st.arg g x) fun u=>bnd (st.arg g i) fun v=>E9 P t u v
 | .extract x i=>bnd (st.arg g x) (Xc i)
 | .call c=>match c.callee with
   | .builtin b=>Jp P st g b c.args.toList c.argTypes.toList
   | _=>no
 | _=>no
theorem Ok {w:World} {G:Au} {x:V} {v:Value} {c q:Bool} (h:Jo x=some (c,q)) (hr:Ab w G x v) (hc:c=true):v= .bool q:=by
 unfold Jo at h
 split at h
 ·simp only [Option.some.injEq,Prod.mk.injEq]at h;obtain⟨rfl,rfl⟩:=h;grind [Ab,Ac]
 ·simp only [Option.some.injEq,Prod.mk.injEq]at h;obtain⟨rfl,rfl⟩:=h
  simp_all [Ab,Ac]
 ·cases h
theorem R.args {F:Fr} {st:St} {a:Act} {w:World} {G:Au} (h:R F st a w G) {g:Bool} (hg:g=true): ∀ {xs:List Operand},(st.args g xs).1→An w G (st.args g xs).2 (xs.map a.eval)
 | [],_=>by simp [St.args,An]
 | x::xs,hs=>by
   simp only [St.args]at hs ⊢
   simp only [An,List.map_cons]
   exact⟨_,_,rfl,h.arg hg hs.1,h.args hg hs.2⟩
theorem Fq {w:World} {G:Au}: ∀ {xs:List V} {vs:List Value},An w G xs vs→ ∀ i,i<xs.length→ ∃ v,vs[i]? =some v∧Ab w G (xs.getD i .undef) v
 | [],vs,h,i,hi=>by simp at hi
 | x::xs,vs,h,i,hi=>by
   simp only [An]at h
   obtain⟨v,r,rfl,h1,h2⟩:=h
   cases i with
   | zero=>exact⟨v,by simp,by simpa using h1⟩
   | succ i=>
     obtain⟨v',q1,q2⟩:=Fq h2 i (by simpa using hi)
     exact⟨v',by simpa using q1,by simpa using q2⟩
theorem Ol {F:Fr} {st:St} {a:Act} {w:World} {G:Au} (h:R F st a w G) {g:Bool} (hg:g=true) {x:Option Operand} (hs:(B2 st g x).1):FI w G (B2 st g x).2 (x.map a.eval):=by
 cases x with
 | none=>simp [B2,FI]
 | some x=>simp only [B2,Option.map,FI]at hs ⊢;exact h.arg hg hs
theorem U6 {P:Program} {F:Fr} {st:St} {a:Act} {w:World} {G:Au} (h:R F st a w G) {g:Bool} (hg:g=true) {o:Oper} (hs:(rd P st g o.op).1):
 ∃ v,Ab w G (rd P st g o.op).2 v∧ ∀ w',BY w w'→(execOp a.eval o).run P w'= .ok (.value v) w':=by
 cases ho:o.op<;>simp only [rd,ho,bnd]at hs ⊢ <;>try (exact hs.elim)
 case move x=>exact⟨_,h.arg hg hs,fun w' _=>by simp [execOp,ho]⟩
 case assign x=>exact⟨_,h.arg hg hs,fun w' _=>by simp [execOp,ho]⟩
 case pick c x y=>
  obtain⟨h1,h2⟩:=hs
  have hc:=h.arg hg h1
  split at h2
  ·rename_i q hq
   rw [hq]at hc
   simp only [Ab,Ac]at hc
   unfold Oj at h2 ⊢
   split at h2
   ·rename_i ca qa cb qb e1 e2
    cases q with
    | true=>
      have:=Ok e1 (h.ev x) (h2.1 rfl)
      simp_all [Ab,Ac,execOp,asBool]
    | false=>
      have:=Ok e2 (h.ev y) (h2.2 rfl)
      simp_all [Ab,Ac,execOp,asBool]
   grind
  grind
 case load t x=>
  obtain⟨v,q1,q2⟩:=H8 (P:=P) h (h.arg hg hs.1) hs.2
  exact⟨v,q1,(by simp_all [execOp])⟩
 case nilCheck x=>
  obtain⟨h1,h2⟩:=hs
  have hx:=h.arg hg h1
  unfold QH at h2 ⊢
  split at h2
  ·rename_i id off e
   rw [e]at hx
   simp only [Ab,Ac]at hx ⊢
   obtain⟨b,hb,hv⟩:=hx
   exact⟨_,⟨b,hb,rfl⟩,(by simp_all [execOp])⟩
  ·rename_i cs off e
   rw [e]at hx
   simp only [Ab,Ac]at hx ⊢
   obtain⟨hp,b,o',hv,k1⟩:=hx
   exact⟨_,⟨hp,b,o',rfl,k1⟩,(by simp_all [execOp])⟩
  ·rename_i f e
   rw [e]at hx
   simp only [Ab,Ac]at hx ⊢
   exact⟨_,rfl,(by simp_all [execOp])⟩
  ·rename_i f cs e
   rw [e]at hx
   simp only [Ab,Ac]at hx ⊢
   obtain⟨arr,hv,hr⟩:=hx
   exact⟨_,⟨arr,rfl,hr⟩,(by simp_all [execOp])⟩
  ·rename_i f cs e
   rw [e]at hx
   simp only [Ab,Ac]at hx ⊢
   obtain⟨arr,hv,hr⟩:=hx
   exact⟨_,⟨arr,rfl,hr⟩,(by simp_all [execOp])⟩
  grind
 case binOp op t x y t'=>
  obtain⟨v,q1,q2⟩:=Xa (P:=P) (ox:=x) (oy:=y) (h.arg hg hs.1) (h.arg hg hs.2.1) hs.2.2
  refine⟨v,q1,fun w' hw'=>?_⟩
  have:=q2 w'
  simp only [execOp,ho,Sem.run_bind]at this ⊢
  simp_all
 case unOp op t x=>
  obtain⟨v,q1,q2⟩:=Rt (P:=P) (h.arg hg hs.1) hs.2
  exact⟨v,q1,(by simp_all [execOp])⟩
 case convert src dst x=>
  obtain⟨v,q1,q2⟩:=U5 (P:=P) h (h.arg hg hs.1) hs.2
  exact⟨v,q1,(by simp_all [execOp])⟩
 case slice t x lo hi mx=>
  cases mx with
  | some _=>grind
  | none=>
    simp only [bnd]at hs ⊢
    obtain⟨v,q1,q2⟩:=SZ (P:=P) (h.arg hg hs.1) (Ol h hg hs.2.1) (Ol h hg hs.2.2.1) hs.2.2.2
    exact⟨v,q1,(by simp_all [execOp])⟩
 case fieldAddr s x f=>
  obtain⟨v,q1,q2⟩:=GW (P:=P) (h.arg hg hs.1) hs.2
  exact⟨v,q1,(by simp_all [execOp])⟩
 case field s x f=>
  obtain⟨v,q1,q2⟩:=SX (P:=P) (h.arg hg hs.1) hs.2
  exact⟨v,q1,(by simp_all [execOp])⟩
 case indexAddr t x i=>
  obtain⟨v,q1,q2⟩:=GX (P:=P) h (h.arg hg hs.1) (h.arg hg hs.2.1) hs.2.2
  exact⟨v,q1,(by simp_all [execOp])⟩
 case index t x i=>
  obtain⟨v,q1,q2⟩:=SY (P:=P) (h.arg hg hs.1) (h.arg hg hs.2.1) hs.2.2
  exact⟨v,q1,(by simp_all [execOp])⟩
 case extract x i=>
  obtain⟨h1,h2⟩:=hs
  have hx:=h.arg hg h1
  unfold Xc at h2 ⊢
  split at h2
  ·rename_i vs e
   rw [e]at hx
   simp only [Ab]at hx
   obtain⟨arr,hv,hr⟩:=hx
   obtain⟨v,q1,q2⟩:=Fq hr i h2
   have q1':arr[i]? =some v:=by grind
   exact⟨v,q2,(by simp_all [execOp,Instr.extract])⟩
  grind
 case call c=>
  split at hs
  ·rename_i b hcal
   unfold Jp at hs ⊢
   split at hs
   ·rename_i x t hxs hts
    have ea:c.args= #[x]:=by grind
    have et:c.argTypes= #[t]:=by grind
    obtain⟨v,q1,q2⟩:=Xb (P:=P) (ty:=o.type) h (h.arg hg hs.1) hs.2
    refine⟨v,q1,fun w' _=>?_⟩
    simp_all [execOp,resolve,invoke,builtin]
   ·rename_i xs ts hxs
    obtain⟨v,q1,q2⟩:=Oh (P:=P) (ts:=c.argTypes) (ty:=o.type) (us:=c.args.map a.eval) (by simpa using h.args hg hs.1) hs.2
    exact⟨v,q1,(by simp_all [execOp,resolve,invoke,builtin])⟩
   ·obtain⟨v,q1,q2⟩:=Oi (P:=P) (ts:=c.argTypes) (ty:=o.type) (us:=c.args.map a.eval) (by simpa using h.args hg hs.1) hs.2
    exact⟨v,q1,(by simp_all [execOp,resolve,invoke,builtin])⟩
   grind
  grind
end Go.PL
namespace Go.PL
open Go Go.RowKit
def EL (id:Ae) (c:C):C:=if c.men id then .any else c
def CN (id:Ae) (v:V):V:=if v.men id then .undef else v
def Ak.kill (id:Ae) (e:Ak):Ak:=match e with
 | ⟨i,r,cs,true⟩=>⟨i,r,cs,true⟩
 | ⟨i,r,cs,false⟩=>⟨i,r,cs.map (EL id),false⟩
theorem Ak.kill_id (id:Ae) (e:Ak):(e.kill id).id =e.id:=by obtain⟨i,r,cs,_ | _⟩:=e<;>rfl
theorem Ak.kill_row (id:Ae) (e:Ak):(e.kill id).row =e.row:=by obtain⟨i,r,cs,_ | _⟩:=e<;>rfl
def St.kill (st:St) (id:Ae):St:={tm:=st.tm.map (CN id),so:=(st.so.filter (fun e=>e.id != id&& !(BX id&&Db e.id))).map (Ak.kill id),gh:=st.gh.map (CN id),pre:=st.pre}
def Kx (e:Ak) (l:List Ak):List Ak:=match BX e.id||Db e.id with
 | true=>l
 | false=>e::l
def St.new (st:St) (e:Ak):St:={tm:=(st.kill e.id).tm,so:=Kx (e.kill e.id) (st.kill e.id).so,gh:=(st.kill e.id).gh,pre:=st.pre}
theorem Fs {e x:Ak} {l:List Ak} (h:x∈Kx e l):x=e∧BX e.id=false∧Db e.id=false∨x∈l:=by
 grind [Kx]
def Bo (F:Fr) (G:Au) (id:Ae) (b:Option Nat) (v:Option Value):Au where
 blk:=fun i=>if i=id then b else G.blk i
 own:=fun i=>if i=id then v else G.own i
 wr:=fun x=>F.av x∨ ∃ i,(if i=id then b else G.blk i)=some x
theorem ZV (id:Ae) (c:C):(EL id c).men id=false:=by
 grind [EL,C.men]
theorem LI (id:Ae) (v:V):(CN id v).men id=false:=by
 grind [CN,V.men]
theorem LJ (id:Ae): ∀ cs:List C,Bd id (cs.map (EL id))=false
 | []=>by simp [Bd]
 | c::cs=>by simp [Bd,ZV,LJ id cs]
theorem ZW {w:World} {G:Au} {id:Ae} {c:C} {v:Value} (h:Ac w G c v):Ac w G (EL id c) v:=by
 unfold EL;split
 ·simp only [Ac];exact h.one
 ·exact h
theorem LK {w:World} {G:Au} {id:Ae}: ∀ {cs:List C} {vs:List Value},Ag w G cs vs→Ag w G (cs.map (EL id)) vs
 | [],[],_=>by simp [Ag]
 | [],_::_,h=>by grind
 | _::_,[],h=>by simp [Ag]at h
 | c::cs,v::vs,h=>by
   simp only [Ag]at h
   simp only [List.map_cons,Ag]
   exact⟨ZW h.1,LK h.2⟩
theorem ME {w:World} {G:Au} {id:Ae} {cs:List C} {b o:Nat} (h:Ai w G cs b o):Ai w G (cs.map (EL id)) b o:=by
 obtain⟨vs,h1,h2⟩:=h.list
 exact Ai.of_list (LK h1) h2
theorem LL {w:World} {G:Au} {id:Ae} {x:V} {v:Value} (h:Ab w G x v):Ab w G (CN id x) v:=by
 grind [CN,Ab]
theorem Jq {w:World} {G:Au} {id:Ae}: ∀ {xs:List V} {vs:List Value},An w G xs vs→An w G (xs.map (CN id)) vs
 | [],_,h=>by grind
 | x::xs,vs,h=>by
   simp only [An]at h
   obtain⟨v,r,e,h1,h2⟩:=h
   simp only [List.map_cons,An]
   exact⟨v,r,e,LL h1,Jq h2⟩
theorem Jr (id:Ae): ∀ xs:List V,GG id (xs.map (CN id))=false
 | []=>by simp [GG]
 | x::xs=>by simp [GG,LI,Jr id xs]
theorem Rv {w:World} {G:Au} {id:Ae} {e:Ak} (h:AJ w G e):AJ w G (e.kill id):=by
 obtain⟨i,r,cs,pu⟩:=e
 cases pu with
 | true=>exact h
 | false=>
 unfold AJ at *
 simp only [Ak.kill]
 simp only at h
 split at h
 ·obtain⟨b,h1,h2⟩:=h
  refine⟨b,h1,?_⟩
  rcases h2 with ⟨kv,es,rfl,h2⟩ | ⟨T,cur,h2,h3,h4⟩
  ·exact .inl ⟨kv,es,by simp [EL,C.men],h2⟩
  ·exact .inr ⟨T,cur,h2,by simpa using h3,ME h4⟩
 ·obtain⟨hl,v,h1,h2⟩:=h
  refine⟨by grind,v,h1,?_⟩
  rcases h2 with h2 | ⟨b,cap,cur,e1,e2,e3,e4,e5,e6,e7⟩
  ·grind
  ·exact .inr ⟨b,cap,cur,e1,e2,e3,e4,e5,e6,ME e7⟩
theorem IL {id:Ae} {e:Ak} (h:e.pu=true→Aj e.cs=true):(e.kill id).pu =true→Aj (e.kill id).cs =true:=by
 obtain⟨i,r,cs,pu⟩:=e
 cases pu with
 | true=>exact h
 | false=>intro hq;cases hq
theorem U7 {id:Ae} {e:Ak} (h:e.pu=true→Aj e.cs=true):Bd id (e.kill id).cs =false:=by
 obtain⟨i,r,cs,pu⟩:=e
 cases pu with
 | true=>exact AE id cs (h rfl)
 | false=>exact LJ id cs
theorem By {w w':World} {G G':Au} (hk:BE G G' w w') {e:Ak} (ha:FE (fun id=>Bd id e.cs=true) G G') (hid:G'.blk e.id=G.blk e.id∧G'.own e.id=G.own e.id)
 (hb: ∀ b,G.blk e.id=some b→w'.heap[b]? =w.heap[b]?) (h:AJ w G e):AJ w' G' e:=by
 unfold AJ at *
 split at h
 ·obtain⟨b,h1,h2⟩:=h
  refine⟨b,by grind,?_⟩
  rcases h2 with ⟨kv,es,h2,h3,h4⟩ | ⟨T,cur,h2,h3,h4⟩
  ·exact .inl ⟨kv,es,h2,by rw [hb b h1];exact h3,h4⟩
  ·exact .inr ⟨T,cur,by rw [hb b h1];exact h2,h3,Ai.mono hk _ _ _ ha (fun o=>cell?_of_block' (hb b h1) o) h4⟩
 ·obtain⟨hl,v,h1,h2⟩:=h
  refine⟨hl,v,by grind,?_⟩
  rcases h2 with ⟨p,e1,e2,e3⟩ | ⟨b,cap,cur,e1,e2,e3,e4,e5,e6,e7⟩
  ·grind
  ·exact .inr ⟨b,cap,cur,e1,by grind,by grind,e4,e5,e6,(by grind [Ai.mono,cell?_of_block'])⟩
theorem C7.mono {w w':World} {G G':Au} (hk:BE G G' w w') {e:Ak} (hid:G'.blk e.id=G.blk e.id∧G'.own e.id=G.own e.id) (hmk: ∀ k,G'.blk (A9 k e.id)=G.blk (A9 k e.id)∧G'.own (A9 k e.id)=G.own (A9 k e.id))
 (hb: ∀ b,G.blk e.id=some b→w'.heap[b]? =w.heap[b]?) (hbm: ∀ k b,G.blk (A9 k e.id)=some b→w'.heap[b]? =w.heap[b]?) (h:C7 w G e):C7 w' G' e:=fun k E n len cs q=>by
 obtain⟨h1,h2,b,v,h3,h4,h5⟩:=h k E n len cs q
 refine⟨h1,By hk (e:=⟨A9 k e.id,some (E,n,len),cs,true⟩) (fun i hi=>absurd (show Bd i cs=true from hi) (by rw [AE i cs h1];simp)) (hmk k) (hbm k) h2,b,v,by grind,?_,by grind⟩
 grind [cell?_of_block']
theorem AY.mono {w w':World} {G G':Au} (hk:BE G G' w w') {e:Ak} (hid:G'.blk e.id=G.blk e.id∧G'.own e.id=G.own e.id) (hmk:Db e.id=true→ ∀ k,G'.blk (A9 k e.id)=G.blk (A9 k e.id)∧G'.own (A9 k e.id)=G.own (A9 k e.id))
 (hb: ∀ b,G.blk e.id=some b→w'.heap[b]? =w.heap[b]?) (hbm:Db e.id=true→ ∀ k b,G.blk (A9 k e.id)=some b→w'.heap[b]? =w.heap[b]?) (h:AY w G e):AY w' G' e:=
 ⟨h.1,fun hd=>⟨(h.2 hd).1,(h.2 hd).2.1,(h.2 hd).2.2.mono hk hid (hmk hd) hb (hbm hd)⟩⟩
theorem AY.kill {w:World} {G:Au} {e:Ak} {id:Ae} (h:AY w G e):AY w G (e.kill id):=by
 obtain⟨i,r,cs,pu⟩:=e
 cases pu with
 | true=>exact h
 | false=>exact⟨h.1,fun hd=>absurd (h.2 hd).1 (by simp)⟩
theorem AY.triv {w:World} {G:Au} {e:Ak} (h1:BX e.id=false) (h2:Db e.id=false):AY w G e:=⟨h1,fun hd=>by rw [h2]at hd;cases hd⟩
theorem DB {st:St} {f:V→V} (hf:f .undef = .undef) (i:Nat):(st.tm.map f).getD i .undef =f (st.tm.getD i .undef):=by
 grind
structure Dc (w w':World):Prop where
 os:w'.os=w.os
 tape:w'.tape=w.tape
 output:w'.output=w.output
theorem R.rename {F:Fr} {st:St} {a:Act} {w w':World} {G:Au} (h:R F st a w G) (id:Ae) (nb:Option Nat) (nv:Option Value)
 (ho:Dc w w') (hs:w.heap.size≤w'.heap.size)
 (hext: ∀ b,b<F.w0.heap.size→ ¬F.old b→w'.heap[b]? =w.heap[b]?)
 (hn: ∀ b,nb=some b→(w.heap.size≤b∨G.blk id=some b)∧b<w'.heap.size) (st':St)
 (htm:st'.tm.length=st.tm.length) (hsl: ∀ i,Ab w' (Bo F G id nb nv) (st'.tm.getD i .undef) (a.tmps.getD i Go.undef))
 (hgh:An w' (Bo F G id nb nv) st'.gh F.gv) (hpu: ∀ e∈st'.so,e.pu=true→Aj e.cs=true) (hso: ∀ e∈st'.so,AJ w' (Bo F G id nb nv) e) (hdp: ∀ e∈st'.so,AY w' (Bo F G id nb nv) e) (hnd:(st'.so.map (·.id)).Nodup):R F st' a w' (Bo F G id nb nv) where
 dfr:=h.dfr
 size:=by rw [htm];exact h.size
 slots:=hsl
 ghosts:=hgh
 pures:=hpu
 store:=hso
 deep:=hdp
 nodup:=hnd
 inj:=by
  intro i j b hi hj
  simp only [Bo]at hi hj
  split at hi<;>split at hj
  ·simp_all
  ·rename_i q1 q2
   rcases (hn b hi).1 with q | q
   ·exact absurd (h.lt j b hj) (by omega)
   ·exact absurd (h.inj j id b hj q) q2
  ·rename_i q1 q2
   rcases (hn b hj).1 with q | q
   ·exact absurd (h.lt i b hi) (by omega)
   ·exact absurd (h.inj i id b hi q) q1
  ·exact h.inj i j b hi hj
 lt:=by
  intro i b hi
  simp only [Bo]at hi
  split at hi
  ·grind
  ·exact Nat.lt_of_lt_of_le (h.lt i b hi) hs
 new:=by
  intro i b hi
  simp only [Bo]at hi
  split at hi
  ·rcases (hn b hi).1 with q | q
   ·grind
   ·exact h.new id b q
  ·exact h.new i b hi
 wr:=fun b=>Iff.rfl
 avlt:=h.avlt
 inv:=h.inv
 avold:=h.avold
 os:=ho.os.trans h.os
 tape:=ho.tape.trans h.tape
 output:=ho.output.trans h.output
 hsize:=Nat.le_trans h.hsize hs
 ext:=fun b hb hold=>(hext b hb hold).trans (h.ext b hb hold)
theorem R.keeps {F:Fr} {st:St} {a:Act} {w w':World} {G:Au} (h:R F st a w G) (id:Ae) (nb:Option Nat) (nv:Option Value)
 (hs:w.heap.size≤w'.heap.size) (hblk: ∀ b,b<w.heap.size→(G.blk id ≠ some b)→w'.heap[b]? =w.heap[b]?)
 (hn: ∀ b,nb=some b→w.heap.size≤b∨(G.blk id=some b∧Bt w w' b)):BE G (Bo F G id nb nv) w w' where
 size:=hs
 block:=fun b hb hw=>hblk b hb (fun he=>hw ((h.wr b).2 (.inr ⟨id,he⟩)))
 wr:=by
  intro b hb hw
  simp only [Bo]at hw
  rw [h.wr]
  grind
 ty:=by
  intro i b h1 h2
  have hb:=h.lt i b h1
  simp only [Bo]at h2
  split at h2
  ·grind
  ·rename_i hne
   exact Bt.same (hblk b hb (fun q=>hne (h.inj _ _ b h1 q)))
theorem Cl {F:Fr} {G:Au} {id:Ae} {nb:Option Nat} {nv:Option Value} {S:Ae→Prop} (hS: ∀ i,S i→i ≠ id):FE S G (Bo F G id nb nv):=
 fun i hi=>by simp [Bo,hS i hi]
theorem R.set {F:Fr} {st:St} {a:Act} {w w':World} {G:Au} (h:R F st a w G) (e:Ak) (nb:Option Nat) (nv:Option Value)
 (ho:Dc w w') (hs:w.heap.size≤w'.heap.size) (hblk: ∀ b,b<w.heap.size→(G.blk e.id ≠ some b)→w'.heap[b]? =w.heap[b]?)
 (hext: ∀ b,b<F.w0.heap.size→ ¬F.old b→w'.heap[b]? =w.heap[b]?)
 (hn: ∀ b,nb=some b→(w.heap.size≤b∨(G.blk e.id=some b∧Bt w w' b))∧b<w'.heap.size) (hp:e.pu=true→Aj e.cs=true) (he:AJ w' (Bo F G e.id nb nv) (e.kill e.id)):R F (st.new e) a w' (Bo F G e.id nb nv):=by
 have hk:=h.keeps e.id nb nv hs hblk (by grind)
 refine h.rename e.id nb nv ho hs hext (by grind) (st.new e) (by simp [St.new,St.kill]) ?_ ?_ ?_ ?_ ?_ ?_
 ·intro i
  simp only [St.new,St.kill]
  rw [DB (by simp [CN,V.men])]
  exact Ab.mono hk _ _ (by grind [Cl,LI]) (LL (h.slots i))
 ·simp only [St.new,St.kill]
  exact An.mono hk _ _ (by grind [Cl,Jr]) (Jq h.ghosts)
 ·intro e' he'
  simp only [St.new,St.kill]at he'
  rcases Fs he' with ⟨rfl,_⟩ | he'
  ·exact IL hp
  ·simp only [List.mem_map,List.mem_filter]at he'
   obtain⟨d,⟨hd,hne⟩,rfl⟩:=he'
   exact IL (h.pures d hd)
 ·intro e' he'
  simp only [St.new,St.kill]at he'
  rcases Fs he' with ⟨rfl,_⟩ | he'
  ·exact he
  ·simp only [List.mem_map,List.mem_filter,Bool.and_eq_true]at he'
   obtain⟨d,⟨hd,hne,_⟩,rfl⟩:=he'
   have hne':d.id ≠ e.id:=by grind
   refine By hk (Cl (fun i hi he'=>by subst he';rw [U7 (h.pures d hd)]at hi;cases hi)) (by grind [Bo,Ak.kill_id]) ?_ (Rv (h.store d hd))
   intro b hb
   rw [Ak.kill_id]at hb
   exact hblk b (h.lt _ b hb) (fun q=>hne' (h.inj _ _ b hb q))
 ·intro e' he'
  simp only [St.new,St.kill]at he'
  rcases Fs he' with ⟨rfl,h1,h2⟩ | he'
  ·exact AY.triv h1 h2
  ·simp only [List.mem_map,List.mem_filter,Bool.and_eq_true]at he'
   obtain⟨d,⟨hd,hne,hmd⟩,rfl⟩:=he'
   have hne':d.id ≠ e.id:=by grind
   have hmk:Db (d.kill e.id).id =true→ ∀ k,A9 k (d.kill e.id).id ≠ e.id:=by
    grind [Ak.kill_id,U4]
   refine AY.mono hk (by grind [Bo,Ak.kill_id]) (by grind [Bo]) ?_ (fun hq k b hb=>hblk b (h.lt _ b hb) (fun q=>hmk hq k (h.inj _ _ b hb q))) (h.deep d hd).kill
   intro b hb
   rw [Ak.kill_id]at hb
   exact hblk b (h.lt _ b hb) (fun q=>hne' (h.inj _ _ b hb q))
 ·have hsub:List.Sublist (((st.new e).so.map (·.id))) (e.id::((st.so.filter (fun d=>d.id != e.id&& !(BX e.id&&Db d.id))).map (·.id))):=by
   simp only [St.new,St.kill,Kx]
   split
   all_goals simp_all [Function.comp_def,Ak.kill_id]
  refine List.Sublist.nodup hsub (List.nodup_cons.2 ⟨by grind,?_⟩)
  exact List.Sublist.nodup (by grind [List.filter_sublist]) h.nodup
theorem R.put {F:Fr} {st:St} {a:Act} {w:World} {G:Au} (h:R F st a w G) {d:Option Nat} {x:V} {v:Value} (hx:Ab w G x v):R F (st.put d x) (a.put d v) w G:=by
 cases d with
 | none=>exact h
 | some d=>
   exact {
    dfr:=h.dfr
    size:=by simp [St.put,Act.put,h.size]
    slots:=by
     intro i
     simp only [St.put,Act.put]
     by_cases hi:i=d
     ·subst hi
      by_cases hl:i<st.tm.length
      ·simp [List.getD_eq_getElem?_getD,hl,h.size,hx]
      grind [Ab]
     ·have h1:(st.tm.set d x).getD i .undef =st.tm.getD i .undef :=by
       grind
      have h2:(a.tmps.setIfInBounds d v).getD i Go.undef=a.tmps.getD i Go.undef:=by
       simp_all [Ne.symm]
      rw [h1,h2];exact h.slots i
    ghosts:=by simpa [St.put] using h.ghosts
    store:=h.store,deep:=h.deep,pures:=h.pures,nodup:=h.nodup,inj:=h.inj,lt:=h.lt,new:=h.new,wr:=h.wr,avlt:=h.avlt,inv:=h.inv,avold:=h.avold,os:=h.os,tape:=h.tape,output:=h.output,hsize:=h.hsize,ext:=h.ext}
theorem R.same {F:Fr} {st:St} {a:Act} {w w':World} {G:Au} (h:R F st a w G) (ho:Dc w w') (hs:BY w w'):R F st a w' G:=by
 have hk:BE G G w w':=⟨hs.size,fun b hb _=>hs.block b hb,fun b _ h=>h,fun i b h1 _=>Bt.same (hs.block b (h.lt i b h1))⟩
 exact {
  dfr:=h.dfr,size:=h.size
  slots:=fun i=>Ab.mono hk _ _ (fun _ _=>⟨rfl,rfl⟩) (h.slots i)
  ghosts:=An.mono hk _ _ (fun _ _=>⟨rfl,rfl⟩) h.ghosts
  store:=fun e he=>By hk (fun _ _=>⟨rfl,rfl⟩) ⟨rfl,rfl⟩ (fun b hb=>hs.block b (h.lt _ b hb)) (h.store e he)
  deep:=fun e he=>AY.mono hk ⟨rfl,rfl⟩ (by grind) (fun b hb=>hs.block b (h.lt _ b hb)) (fun _ k b hb=>hs.block b (h.lt _ b hb)) (h.deep e he)
  pures:=h.pures
  nodup:=h.nodup,inj:=h.inj
  lt:=fun i b hb=>Nat.lt_of_lt_of_le (h.lt i b hb) hs.size
  new:=h.new,wr:=h.wr,avlt:=h.avlt,inv:=h.inv,avold:=h.avold
  os:=ho.os.trans h.os,tape:=ho.tape.trans h.tape,output:=ho.output.trans h.output
  hsize:=Nat.le_trans h.hsize hs.size
  ext:=fun b hb hold=>(hs.block b (Nat.lt_of_lt_of_le hb h.hsize)).trans (h.ext b hb hold)}
end Go.PL
namespace Go.PL
open Go Go.RowKit
theorem fR {w:World} {o:Obj} {b:Nat} (h:b<w.heap.size):(w.heap.push o)[b]? =w.heap[b]? :=by
 grind
theorem Ej (w:World) (o:Obj):(w.alloc o).heap =w.heap.push o:=rfl
theorem EM (w:World) (o:Obj):Dc w (w.alloc o):=⟨rfl,rfl,rfl⟩
theorem Ek (w:World) (o:Obj):BY w (w.alloc o):=⟨by simp [Ej],(by grind [Ej])⟩
theorem EE {F:Fr} {st:St} {a:Act} {w w':World} {G:Au} (h:R F st a w G) {id:Ae} {nb:Option Nat} {nv:Option Value} (hk:BE G (Bo F G id nb nv) w w')
 {cs:List C} {vs:List Value} {row:Option (TypeId×Nat×Nat)} {pu:Bool} (hp:pu=true→Aj cs=true) (hr:Ag w G cs vs):Ag w' (Bo F G id nb nv) (Ak.kill id ⟨id,row,cs,pu⟩).cs vs:=by
 cases pu with
 | true=>exact Ag.mono hk _ _ (Cl (fun i hi he'=>by subst he';have:=AE i cs (hp rfl);grind [Ak.kill])) hr
 | false=>grind [Ag.mono,Cl,Ak.kill,LJ,LK]
theorem Ia {id:Ae} {row:Option (TypeId×Nat×Nat)} {cs:List C} {pu:Bool}:(Ak.kill id ⟨id,row,cs,pu⟩).cs.length =cs.length:=by cases pu<;>simp [Ak.kill]
theorem U8 {w:World} {G:Au} {e:Ak} (hrow:e.row=none) (h: ∃ b T cur,G.blk e.id=some b∧w.heap[b]? =some (.cells cur T (0,0))∧cur.size=e.cs.length∧Ai w G e.cs b 0):AJ w G e:=by
 unfold AJ;rw [hrow]
 obtain⟨b,T,cur,h1,h2⟩:=h
 exact⟨b,h1, .inr ⟨T,cur,h2⟩⟩
theorem FK {w:World} {G:Au} {e:Ak} {E n len:Nat} (hrow:e.row=some (E,n,len)) (h:e.cs.length=len*n∧ ∃ v,G.own e.id=some v∧
 ((∃ p,v= .slice p 0 0∧len=0∧G.blk e.id=none)∨
  ∃ b cap cur,v= .slice (some ⟨b,0,none⟩) len cap∧G.blk e.id=some b∧w.heap[b]? =some (.cells cur E (0,0))∧len≤cap∧cap≤maxLen∧cur.size=cap*n∧Ai w G e.cs b 0)):AJ w G e:=by
 grind [AJ]
theorem Jc (w:World) (cur:Array Value) (T:TypeId):(w.alloc (.cells cur T)).rangeAt w.heap.size 0 cur.toList:=by
 intro j v hv
 simp_all
theorem R.box {F:Fr} {st:St} {a:Act} {w:World} {G:Au} (h:R F st a w G) (id:Ae) (T:TypeId) (cs:List C) (cur:Array Value) (hr:Ag w G cs cur.toList) (pu:Bool) (hp:pu=true→Aj cs=true):
 R F (st.new ⟨id,none,cs,pu⟩) a (w.alloc (.cells cur T)) (Bo F G id (some w.heap.size) none):=by
 have hsame:=Ek w (.cells cur T)
 refine h.set ⟨id,none,cs,pu⟩ (some w.heap.size) none (EM _ _) hsame.size (fun b hb _=>hsame.block b hb) (fun b hb _=>hsame.block b (Nat.lt_of_lt_of_le hb h.hsize)) ?_ hp ?_
 ·simp_all
 ·refine U8 (Ak.kill_row _ _) ⟨w.heap.size,T,cur,by simp [Bo,Ak.kill_id],by simp [Ej],by rw [Ia];simpa using hr.length.symm,?_⟩
  exact Ai.of_list (EE h (h.keeps id _ _ hsame.size (fun b hb _=>hsame.block b hb) (by grind)) hp hr) (Jc w cur T)
theorem R.row {F:Fr} {st:St} {a:Act} {w:World} {G:Au} (h:R F st a w G) (id:Ae) (T n len cap:Nat) (cs:List C) (cur:Array Value) (vs:List Value) (hr:Ag w G cs vs) (hp:cur.toList.take vs.length=vs)
 (hl:cs.length=len*n) (hc:cur.size=cap*n) (hlc:len≤cap) (hm:cap≤maxLen) (pu:Bool) (hp':pu=true→Aj cs=true):
 R F (st.new ⟨id,some (T,n,len),cs,pu⟩) a (w.alloc (.cells cur T)) (Bo F G id (some w.heap.size) (some (.slice (some ⟨w.heap.size,0,none⟩) len cap))):=by
 have hsame:=Ek w (.cells cur T)
 refine h.set ⟨id,some (T,n,len),cs,pu⟩ (some w.heap.size) _ (EM _ _) hsame.size (fun b hb _=>hsame.block b hb) (fun b hb _=>hsame.block b (Nat.lt_of_lt_of_le hb h.hsize)) ?_ hp' ?_
 ·simp_all
 ·refine FK (Ak.kill_row _ _) ⟨by rw [Ia];exact hl,_,by simp_all [Bo,Ak.kill_id], .inr ⟨w.heap.size,cap,cur,rfl,by simp [Bo,Ak.kill_id],by simp [Ej],hlc,hm,hc,?_⟩⟩
  refine Ai.of_list (EE h (h.keeps id _ _ hsame.size (fun b hb _=>hsame.block b hb) (by grind)) hp' hr) ?_
  intro j v hv
  refine Jc w cur T j v ?_
  grind
theorem R.clipRow {F:Fr} {st:St} {a:Act} {w:World} {G:Au} (h:R F st a w G) (id:Ae) (T n:Nat) (p:Option Addr):
 R F (st.new ⟨id,some (T,n,0),[],true⟩) a w (Bo F G id none (some (.slice p 0 0))):=by
 refine h.set ⟨id,some (T,n,0),[],true⟩ none _ ⟨rfl,rfl,rfl⟩ (Nat.le_refl _) (fun _ _ _=>rfl) (fun _ _ _=>rfl) (by grind) (fun _=>rfl) ?_
 simp only [AJ,Ak.kill]
 exact⟨by simp, .slice p 0 0,by simp [Bo], .inl ⟨p,rfl,trivial,by simp [Bo]⟩⟩
theorem R.nilRow {F:Fr} {st:St} {a:Act} {w:World} {G:Au} (h:R F st a w G) (id:Ae) (T n:Nat):
 R F (st.new ⟨id,some (T,n,0),[],true⟩) a w (Bo F G id none (some (.slice none 0 0))):=h.clipRow id T n none
def V.cells:V→Option (List C)
 | .c x=>some [x]
 | .agg cs=>some cs
 | _=>none
theorem FL {w:World} {G:Au} {x:V} {v:Value} {cs:List C} (h:Ab w G x v) (hc:x.cells=some cs):Ag w G cs v.cells.toList:=by
 unfold V.cells at hc
 split at hc
 ·injection hc with hc;subst hc
  simp only [Ab]at h
  have:=h.one
  have e:v.cells= #[v]:=by
   cases v<;>simp_all [Value.cells,Value.oneCell']
  grind [Ag]
 ·injection hc with hc;subst hc
  simp only [Ab]at h
  obtain⟨arr,rfl,hr⟩:=h
  grind [Value.cells]
 ·cases hc
def HU (P:Program) (t:TypeId):Option (List C):=
 match P.info? t with
 | some i=>match i.zero with
   | some z=>CD z.cells.toList
   | none=>none
 | none=>none
theorem El {P:Program} {t:TypeId} {cs:List C} (h:HU P t=some cs): ∃ i z,P.info? t=some i∧i.zero=some z∧CD z.cells.toList=some cs:=by
 grind [HU]
theorem run_zeroValue' {P:Program} {t:TypeId} {i:TypeInfo} {z:Value} (hi:P.info? t=some i) (hz:i.zero=some z) (w:World):(zeroValue t).run P w= .ok z w:=by
 simp_all [zeroValue,typeInfo]
def Ff (place:Nat→Option (Nat×Nat)) (cells:List C):List (Nat×V)→Option (List C)
 | []=>some cells
 | (i,v)::rest=>match place i,v.cells with
   | some (off,size),some cs=>if cs.length=size∧off+size≤cells.length then Ff place (cells.take off++cs++cells.drop (off+size)) rest else none
   | _,_=>none
def H5 (w:World) (G:Au):List (Nat×V)→List (Nat×Value)→Prop
 | [],[]=>True
 | (i,x)::xs,(j,v)::vs=>i=j∧Ab w G x v∧H5 w G xs vs
 | _,_=>False
theorem LM (vs:List Value) (off:Nat): ∀ (k:Nat) (cs:Array Value),off+k+vs.length≤cs.size→
 ((vs.zipIdx k).foldl (fun cs (c,j)=>cs.setIfInBounds (off+j) c) cs).toList =cs.toList.take (off+k)++vs++cs.toList.drop (off+k+vs.length):=by
 induction vs with
 | nil=>simp_all
 | cons v vs ih=>
   intro k cs hk
   simp only [List.zipIdx_cons,List.foldl_cons]
   simp only [List.length_cons]at hk ⊢
   rw [ih (k+1) _ (by simp;omega)]
   have hlt:off+k<cs.toList.length:=by simp;omega
   rw [Array.toList_setIfInBounds,List.set_eq_take_append_cons_drop,if_pos hlt]
   have e1:(cs.toList.take (off+k)).length =off+k:=by grind
   rw [List.take_append,List.drop_append,e1]
   rw [show off+(k+1) - (off+k)=1 by omega,show off+(k+1)+vs.length - (off+k)=vs.length+1 by omega]
   rw [List.take_take,show min (off+(k+1)) (off+k)=off+k by omega]
   have e3:List.drop (off+(k+1)+vs.length) (List.take (off+k) cs.toList)=[]:=(by grind [List.drop_of_length_le])
   grind [List.drop_drop]
theorem FM {w:World} {G:Au} {place:Nat→Option (Nat×Nat)}: ∀ {ps:List (Nat×V)} {qs:List (Nat×Value)} {cells out:List C} {arr:Array Value},
 Ff place cells ps=some out→H5 w G ps qs→Ag w G cells arr.toList→ ∃ arr',Instr.fill place arr qs=some arr'∧Ag w G out arr'.toList
 | [],[],cells,out,arr,h,_,hr=>by
   simp only [Ff,Option.some.injEq]at h;subst h
   exact⟨arr,rfl,hr⟩
 | [],_::_,_,_,_,_,h,_=>by simp [H5]at h
 | _::_,[],_,_,_,_,h,_=>by simp [H5]at h
 | (i,x)::ps,(j,v)::qs,cells,out,arr,h,hp,hr=>by
   simp only [H5]at hp
   obtain⟨rfl,hv,hp⟩:=hp
   simp only [Ff]at h
   split at h
   ·rename_i off size cs hpl hcs
    split at h
    ·rename_i hb
     have hvc:=FL hv hcs
     have hl:=hr.length
     have hlv:=hvc.length
     have e:=LM v.cells.toList off 0 arr (by simp at hl hlv ⊢;omega)
     simp only [Instr.fill,hpl]
     rw [if_neg (by simp at hl hlv ⊢;omega)]
     refine FM h hp ?_
     rw [←Array.foldl_toList,Array.toList_zipIdx,e]
     simp only [Nat.add_zero]
     have:v.cells.toList.length=size:=by grind
     rw [this]
     exact((hr.take off).append hvc).append (hr.drop (off+size))
    ·cases h
   ·cases h
end Go.PL
namespace Go.PL
open Go Go.RowKit
theorem A0 {w:World} {b:Nat} {cur:Array Value} {T:TypeId} {fr:Nat×Nat} (h:w.heap[b]? =some (.cells cur T fr)) {us rest:List Value} (e:us++rest=cur.toList):w.rangeAt b 0 us:=by
 intro j v hv
 have h2:cur.toList[j]? =some v:=by
  grind
 grind [World.cell?]
theorem EF {w:World} {b:Nat} {cur:Array Value} {T:TypeId} {fr:Nat×Nat} (h:w.heap[b]? =some (.cells cur T fr)) {us:List Value} (hr:w.rangeAt b 0 us):us++cur.toList.drop us.length=cur.toList:=by
 have:us=cur.toList.take us.length:=by
  apply List.ext_getElem?
  intro j
  by_cases hj:j<us.length
  ·have:=hr j us[j] (by simp [hj])
   simp_all [World.cell?]
  grind
 grind [List.take_append_drop]
def St.setCs (st:St) (id:Ae) (cs:List C) (q:Bool):St:={st with so:=st.so.map fun e=>if e.id==id then⟨e.id,e.row,cs,e.pu&&q⟩else e}
theorem R.stored {F:Fr} {st:St} {a:Act} {w:World} {G:Au} (h:R F st a w G) {id:Ae} {e:Ak} (he:st.look id=some e) {b:Nat} (hb:G.blk id=some b) {off:Nat} {xs:List C} {vs:List Value}
 (hx:Ag w G xs vs) (hoff:off+xs.length≤e.cs.length):
 ∃ cur T,w.heap[b]? =some (.cells cur T (0,0))∧off+vs.length≤cur.size∧
   R F (st.setCs id (e.cs.take off++xs++e.cs.drop (off+xs.length)) (Aj xs)) a (w.setRow b (cur.toList.take off++vs++cur.toList.drop (off+vs.length)).toArray) G:=by
 obtain⟨hm,hid⟩:=AK he
 obtain⟨cur,T,hheap,hle,hrow⟩:=(h.store e hm).row (NN he) (by rw [hid];exact hb)
 obtain⟨us,h1,h2⟩:=hrow.list
 have hlx:=hx.length
 have hlu:=h1.length
 have hpre:=EF hheap h2
 refine⟨cur,T,hheap,by omega,?_⟩
 have hbl: ∀ k,k ≠ b→(w.setRow b (cur.toList.take off++vs++cur.toList.drop (off+vs.length)).toArray).heap[k]? =w.heap[k]? :=fun k hk=>setRow_other w b k _ hk
 have hnew:=setRow_heap w b cur (cur.toList.take off++vs++cur.toList.drop (off+vs.length)).toArray T (0,0) hheap
 have hk:BE G G w (w.setRow b (cur.toList.take off++vs++cur.toList.drop (off+vs.length)).toArray):=
  ⟨by simp,fun k _ hw=>hbl k (fun q=>hw ((h.wr k).2 (by grind))),fun _ _ q=>q,fun i k h1 _=>by
   by_cases hkb:k=b
   ·subst hkb
    intro cur' T' fz' hq
    grind
   grind [Bt.same]⟩
 have hsplit:(us.take off++vs++us.drop (off+vs.length))++cur.toList.drop us.length=(cur.toList.take off++vs++cur.toList.drop (off+vs.length)).toArray.toList :=by
  grind
 have hrange:=A0 hnew hsplit
 have hl2:Ag w G (e.cs.take off++xs++e.cs.drop (off+xs.length)) (us.take off++vs++us.drop (off+vs.length)):=by
  rw [hlx]
  exact((h1.take off).append hx).append (h1.drop _)
 have hrow':=Ai.of_list (Ag.mono hk _ _ (fun _ _=>⟨rfl,rfl⟩) hl2) hrange
 have hlen:(e.cs.take off++xs++e.cs.drop (off+xs.length)).length =e.cs.length:=by simp;omega
 have hcur:(cur.toList.take off++vs++cur.toList.drop (off+vs.length)).toArray.size =cur.size:=by simp;omega
 exact {
  dfr:=h.dfr,size:=h.size
  slots:=fun i=>Ab.mono hk _ _ (fun _ _=>⟨rfl,rfl⟩) (h.slots i)
  ghosts:=An.mono hk _ _ (fun _ _=>⟨rfl,rfl⟩) h.ghosts
  store:=by
   intro e' he'
   simp only [St.setCs,List.mem_map]at he'
   obtain⟨d,hd,rfl⟩:=he'
   split
   ·rename_i hdid
    replace hdid:d.id=id:=by grind
    have:d=e:=by
     have hn:=h.nodup
     have:=List.pairwise_map.1 hn
     rcases List.mem_iff_getElem.1 hd with ⟨i,hi,rfl⟩
     rcases List.mem_iff_getElem.1 hm with ⟨j,hj,rfl⟩
     grind [List.pairwise_iff_getElem]
    subst this
    have hE:=h.store d hd
    unfold AJ at hE ⊢
    simp only
    split at hE
    ·rename_i hrn
     obtain⟨b',q1,hbx⟩:=hE
     obtain⟨T',cur',q2,q3,q4⟩:=hbx.cells (NN he hrn)
     rw [hid,hb]at q1;injection q1 with q1;subst q1
     rw [hheap]at q2;injection q2 with q2;injection q2 with q2a q2b;subst q2a q2b
     exact⟨b,by grind, .inr ⟨T,_,hnew,by rw [hcur,hlen];exact q3,hrow'⟩⟩
    ·obtain⟨hl,v,q1,q2⟩:=hE
     refine⟨by grind,v,q1,?_⟩
     rcases q2 with q2 | ⟨b',cap,cur',e1,e2,e3,e4,e5,e6,e7⟩
     ·grind
     ·rw [hid,hb]at e2;injection e2 with e2;subst e2
      rw [hheap]at e3;injection e3 with e3;injection e3 with e3a e3b;subst e3a e3b
      exact .inr ⟨b,cap,_,e1,by grind,hnew,e4,e5,by grind,hrow'⟩
   ·rename_i hdid
    replace hdid: ¬d.id=id:=by grind
    exact By hk (fun _ _=>⟨rfl,rfl⟩) ⟨rfl,rfl⟩ (fun k hk'=>hbl k (fun q=>hdid (h.inj _ _ k hk' (by grind)))) (h.store d hd)
  deep:=by
   intro e' he'
   simp only [St.setCs,List.mem_map]at he'
   obtain⟨d,hd,rfl⟩:=he'
   split
   ·rename_i hdid
    replace hdid:d.id=id:=by grind
    exact AY.triv (h.deep d hd).1 (by grind [DR])
   ·rename_i hdid
    replace hdid: ¬d.id=id:=by grind
    refine AY.mono hk ⟨rfl,rfl⟩ (by grind) (fun k hk'=>hbl k (fun q=>hdid (h.inj _ _ k hk' (by grind)))) (fun _ k b' hb'=>hbl b' (fun q=>?_)) (h.deep d hd)
    have h1:A9 k d.id=id:=h.inj _ _ b' hb' (by grind)
    have h2:=(h.deep e hm).1
    rw [hid, ←h1]at h2
    cases h2
  pures:=by
   intro e' he'
   simp only [St.setCs,List.mem_map]at he'
   obtain⟨d,hd,rfl⟩:=he'
   split
   ·rename_i hdid
    replace hdid:d.id=id:=by grind
    have:d=e:=by
     have hn:=h.nodup
     have:=List.pairwise_map.1 hn
     rcases List.mem_iff_getElem.1 hd with ⟨i,hi,rfl⟩
     rcases List.mem_iff_getElem.1 hm with ⟨j,hj,rfl⟩
     grind [List.pairwise_iff_getElem]
    subst this
    intro hq
    simp only [Bool.and_eq_true]at hq
    simp only [Bb,Bool.and_eq_true]
    exact⟨⟨Hs _ (h.pures d hd hq.1),hq.2⟩,Ht _ (h.pures d hd hq.1)⟩
   ·exact h.pures d hd
  nodup:=by
   have:(st.setCs id (e.cs.take off++xs++e.cs.drop (off+xs.length)) (Aj xs)).so.map (·.id)=st.so.map (·.id):=by
    simp only [St.setCs,List.map_map]
    apply List.map_congr_left
    grind
   rw [this];exact h.nodup
  inj:=h.inj
  lt:=fun i k hi=>by simpa using h.lt i k hi
  new:=h.new,wr:=h.wr,avlt:=h.avlt,inv:=h.inv,avold:=h.avold
  os:=by simpa using h.os
  tape:=by simpa using h.tape
  output:=by simpa using h.output
  hsize:=by simpa using h.hsize
  ext:=fun k hk' hold=>(hbl k (fun q=>by
   rcases h.new id b hb with q2 | q2
   all_goals grind)).trans (h.ext k hk' hold)}
theorem Cq {w:World} {G:Au} {e:Ak} {E n len:Nat} (hrow:e.row=some (E,n,len)) (h:AJ w G e):
 ∃ v vs,G.own e.id=some v∧v.oneCell'=true∧Ag w G e.cs vs∧((w.ownsRow 0 E n v len vs∧v.ownBlock=G.blk e.id)∨ ∃ p,v= .slice (some p) 0 0∧len=0∧vs=[]∧G.blk e.id=none):=by
 unfold AJ at h
 rw [hrow]at h
 obtain⟨hl,v,h1,h2⟩:=h
 rcases h2 with ⟨p,rfl,h0,hb⟩ | ⟨b,cap,cur,rfl,e2,e3,e4,e5,e6,e7⟩
 ·have hcs:e.cs=[]:=by simp_all
  cases p with
  | none=>exact⟨_,[],h1,rfl,by rw [hcs];simp [Ag], .inl ⟨⟨by rw [h0];simp, .inl ⟨rfl,h0⟩⟩,by rw [hb];rfl⟩⟩
  | some p=>exact⟨_,[],h1,rfl,by rw [hcs];simp [Ag],(by grind)⟩
 ·obtain⟨us,q1,q2⟩:=e7.list
  have hlu:=q1.length
  have hpre:=EF e3 q2
  refine⟨_,us,h1,rfl,q1, .inl ⟨⟨by omega, .inr ⟨b,cap,cur,rfl,Nat.zero_le _,e3,e4,e5,e6,?_⟩⟩,by rw [e2];rfl⟩⟩
  grind
theorem R.appended {F:Fr} {st:St} {a:Act} {w w':World} {G:Au} (h:R F st a w G) {id:Ae} {e:Ak} (he:st.look id=some e) {E n len m:Nat}
 {v v':Value} {xs us:List Value} {cs:List C} {q:Bool} (hq:q=true→Aj cs=true) (hob:v.ownBlock=G.blk id) (h1:Ag w G e.cs xs) (h2:Ag w G cs us)
 (hold:w.ownsRow 0 E n v len xs) (hnew:w'.ownsRow 0 E n v' (len+m) (xs++us)) (hg:w.grownBy w' v.ownBlock) (hfr:v'.ownBlock=v.ownBlock∨ ∀ b,v'.ownBlock=some b→w.heap.size≤b):
 ∃ G',R F (st.new ⟨id,some (E,n,len+m),e.cs++cs,e.pu&&q⟩) a w' G'∧G'.own id=some v'∧v'.oneCell'=true:=by
 obtain⟨hm,hid⟩:=AK he
 have hblk: ∀ b,b<w.heap.size→G.blk id ≠ some b→w'.heap[b]? =w.heap[b]? :=fun b hb hne=>hg.block b hb (by grind)
 have hn: ∀ b,v'.ownBlock=some b→w.heap.size≤b∨(G.blk id=some b∧Bt w w' b):=by
  intro b hb
  rcases hfr with q | q
  ·refine .inr ⟨by grind,?_⟩
   have hb2:v.ownBlock=some b:=by grind
   intro cur T fz hc
   rcases hnew.2 with ⟨r,_⟩ | ⟨g,cap,cur',r,_,r2,_⟩
   ·rw [r]at hb;cases hb
   ·rw [r]at hb
    simp only [Value.ownBlock,Option.some.injEq]at hb
    subst hb
    rcases hold.2 with ⟨r3,_⟩ | ⟨g3,cap3,cur3,r3,_,r4,_⟩
    all_goals grind [Value.ownBlock]
  grind
 have hlt: ∀ b,v'.ownBlock=some b→b<w'.heap.size:=fun b hb=>(hnew.lt b hb).2
 have hone:v'.oneCell'=true:=by
  rcases hnew.2 with ⟨q,_⟩ | ⟨g,cap,cur,q,_⟩<;>rw [q]<;>rfl
 refine⟨Bo F G id v'.ownBlock (some v'),?_,by simp [Bo],hone⟩
 have hk:=h.keeps id v'.ownBlock (some v') hg.size hblk hn
 have hpq:(e.pu&&q)=true→Aj (e.cs++cs)=true:=fun hx=>by
  simp only [Bool.and_eq_true]at hx
  rw [Bb,h.pures e hm hx.1,hq hx.2];rfl
 have hkill:=EE (row:=some (E,n,len+m)) h hk hpq (h1.append h2)
 refine h.set ⟨id,some (E,n,len+m),e.cs++cs,e.pu&&q⟩ v'.ownBlock (some v') ⟨hg.os,hg.tape,hg.output⟩ hg.size hblk ?_ (by grind) hpq ?_
 ·intro b hb hold2
  refine hblk b (Nat.lt_of_lt_of_le hb h.hsize) (fun q=>?_)
  rcases h.new id b q with q2 | q2
  all_goals grind
 ·have hl:=h1.length
  have hl2:=h2.length
  have hln:=hnew.1
  refine FK (Ak.kill_row _ _) ⟨by grind [Ia],v',by simp [Bo,Ak.kill_id],?_⟩
  rcases hnew.2 with ⟨q,h0⟩ | ⟨g,cap,cur,q,_,q2,q3,q4,q5,q6⟩
  ·simp_all [Bo,Value.ownBlock,Ak.kill_id]
  ·refine .inr ⟨g,cap,cur,q,by simp [Bo,q,Value.ownBlock,Ak.kill_id],q2,q3,q4,q5,?_⟩
   grind [Ai.of_list,A0,List.take_append_drop]
theorem B4 {P:Program} {w:World} (t ty e:TypeId) (i:TypeInfo) (z:Value) (size bytes:Nat) (ht:P.underlying t=some (.slice e)) (hi:P.info? e=some i) (hz:i.zero=some z)
 (hsize:i.size=size) (hby:i.bytes=bytes) (hzs:z.cells.size=size) (hsz:0<size)
 (v:Value) (n:Nat) (xs:List Value) (hown:w.ownsRow 0 e size v n xs)
 (a:Addr) (m c:Nat) (news:List Value) (hl:news.length=m*size) (hnews: ∀ j u,news[j]? =some u→w.cell? (a.add j)=some u) (h1: ∀ u∈news,u.oneCell'=true)
 (h63:n+m≤maxLen) (hbytes:(n+m)*bytes≤140737488355328):
 ∃ v' w',(Builtin.append_ #[t,t] ty #[v, .slice (some a) m c]).run P w= .ok v' w'∧w'.ownsRow 0 e size v' (n+m) (xs++news)∧w.grownBy w' v.ownBlock∧
   (v'.ownBlock=v.ownBlock∨ ∀ b,v'.ownBlock=some b→w.heap.size≤b):=by
 subst hsize hby
 have hM:maxLen=9223372036854775807:=rfl
 have hlen:(xs++news).length =(n+m)*i.size:=by rw [List.length_append,hown.1,hl, ←Nat.add_mul]
 have grown: ∀ old,old<n+m→ ∀ row,
  (w.drew.alloc (.cells (xs.toArray++news.toArray++Builtin.zeroCells z.cells (grownCap w (n+m) old e - (n+m))) e)).ownsRow 0 e i.size
   (.slice (some ⟨w.heap.size,0,none⟩) (n+m) (grownCap w (n+m) old e)) (n+m) (xs++news)∧
  w.grownBy (w.drew.alloc (.cells (xs.toArray++news.toArray++Builtin.zeroCells z.cells (grownCap w (n+m) old e - (n+m))) e)) row:=by
  intro old ho row
  have hge:=grownCap_ge w (n+m) old e
  have hcm:grownCap w (n+m) old e≤maxLen:=grownCap_le_maxLen w (n+m) old e h63
  refine⟨⟨hlen, .inr ⟨w.heap.size,_,_,rfl,Nat.zero_le _,heap_alloc_new w.drew _,hge,hcm,?_,?_⟩⟩,⟨rfl,rfl,rfl,by simp,fun k hk _=>heap_alloc_old w.drew _ hk⟩⟩
  ·simp only [Array.size_append,List.size_toArray,size_zeroCells,hzs,hown.1,hl, ←Nat.add_mul]
   grind
  grind
 rcases hown.2 with ⟨rfl,rfl⟩ | ⟨g,cap,cur,rfl,hbg,hg,hnc,hcm,hcs,htake⟩
 ·have hx:xs=[]:=(by simp_all)
  subst hx
  by_cases hm:m=0
  ·subst hm
   have hn:news=[]:=(by grind)
   subst hn
   refine⟨.slice none 0 0,w,?_,(by grind),⟨rfl,rfl,rfl,Nat.le_refl _,fun _ _ _=>rfl⟩, .inl rfl⟩
   simp [Builtin.append_,run_underlying ht,sizeOf,typeInfo,hi,Builtin.lenOf,Builtin.firstCells,loadCells,loadCellsFrom]
  ·have hr:=run_append_nil (P:=P) w t ty e i z ht hi hz a m c news hl hnews (by omega) (by omega) (by grind)
   have hgr:=grown 0 (by omega) (Value.ownBlock (.slice none 0 0))
   simp only [Nat.zero_add,List.nil_append,Array.empty_append]at hgr ⊢
   grind [Value.ownBlock]
 ·by_cases hroom:n+m≤cap
  ·have hfit:n*i.size+news.length≤cur.size:=by rw [hl,hcs, ←Nat.add_mul];simp_all [Nat.mul_le_mul_right]
   have hr:=run_append_room (P:=P) w t ty e i ht hi g n cap cur hg a m c news hl hnews h1 hroom hfit
   refine⟨_,_,hr,⟨hlen, .inr ⟨g,cap,_,rfl,hbg,setRow_heap w g cur _ e _ hg,hroom,hcm,?_,?_⟩⟩,⟨rfl,rfl,rfl,by simp,(by grind [setRow_other,Value.ownBlock])⟩, .inl rfl⟩
   all_goals grind
  ·have holds: ∀ j u,xs[j]? =some u→w.cell? ((⟨g,0,none⟩:Addr).add j)=some u:=hown.cells (g:=g) rfl
   have hr:=run_append_grow (P:=P) w t ty e i z ht hi hz ⟨g,0,none⟩ n cap xs hown.1 holds a m c news hl hnews (by omega) (by omega) (growslice_fits (by omega) hbytes)
   have hgr:=grown cap (by omega) (Value.ownBlock (.slice (some ⟨g,0,none⟩) n cap))
   grind [Value.ownBlock]
theorem R.appended0 {F:Fr} {st:St} {a:Act} {w:World} {G:Au} (h:R F st a w G) {id:Ae} {e:Ak} {E n:Nat} {p:Addr} (pu:Bool) (hcs:e.cs=[]):
 ∃ G',R F (st.new ⟨id,some (E,n,0+0),e.cs++[],pu⟩) a w G'∧G'.own id=some (.slice (some p) 0 0):=by
 refine⟨Bo F G id none (some (.slice (some p) 0 0)),?_,by simp [Bo]⟩
 rw [hcs]
 refine h.set ⟨id,some (E,n,0+0),[]++[],pu⟩ none _ ⟨rfl,rfl,rfl⟩ (Nat.le_refl _) (fun _ _ _=>rfl) (fun _ _ _=>rfl) (by grind) (fun _=>rfl) ?_
 refine FK (Ak.kill_row _ _) ⟨by rw [Ia];simp,_,by simp_all [Bo,Ak.kill_id], .inl ⟨some p,rfl,rfl,by simp [Bo,Ak.kill_id]⟩⟩
theorem Dj {P:Program} {w:World} (t ty e:TypeId) (i:TypeInfo) (z:Value) (size bytes:Nat) (ht:P.underlying t=some (.slice e)) (hi:P.info? e=some i) (hz:i.zero=some z)
 (hsize:i.size=size) (hby:i.bytes=bytes) (hzs:z.cells.size=size) (hsz:0<size) (p:Addr)
 (a:Addr) (m c:Nat) (news:List Value) (hl:news.length=m*size) (hnews: ∀ j u,news[j]? =some u→w.cell? (a.add j)=some u) (hm:0<m)
 (h63:m≤maxLen) (hbytes:m*bytes≤140737488355328):
 ∃ v' w',(Builtin.append_ #[t,t] ty #[.slice (some p) 0 0, .slice (some a) m c]).run P w= .ok v' w'∧w'.ownsRow 0 e size v' m news∧w.grownBy w' none∧
   ∀ b,v'.ownBlock=some b→w.heap.size≤b:=by
 subst hsize hby
 have hM:maxLen=9223372036854775807:=rfl
 have hr:=run_append_grow (P:=P) w t ty e i z ht hi hz p 0 0 [] (by simp) (by grind) a m c news hl hnews (by omega) (by omega) (by simp_all [growslice_fits])
 have hge:=grownCap_ge w (0+m) 0 e
 have hcm:grownCap w (0+m) 0 e≤maxLen:=grownCap_le_maxLen w (0+m) 0 e (by omega)
 refine⟨_,_,hr,⟨hl, .inr ⟨w.heap.size,_,_,by simp,Nat.zero_le _,heap_alloc_new w.drew _,by grind,hcm,?_,?_⟩⟩,⟨rfl,rfl,rfl,by simp,fun k hk _=>heap_alloc_old w.drew _ hk⟩,(by grind [Value.ownBlock])⟩
 ·simp only [Array.size_append,List.size_toArray,size_zeroCells,hzs,hl, ←Nat.add_mul,List.length_nil,Nat.zero_add]at hge ⊢
  grind
 grind
end Go.PL
namespace Go.PL
open Go Go.RowKit
mutual
def V.pure:V→Bool
 | .c x=>x.pure
 | .agg cs=>Aj cs
 | .tup vs=>Bv vs
 | .g b v=> !b||v.pure
 | .undef =>true
def Bv:List V→Bool
 | []=>true
 | v::vs=>v.pure&&Bv vs
end
mutual
theorem IM (id:Ae): ∀ v:V,v.pure=true→v.men id=false
 | .c x,h=>by grind [V.men,GT,V.pure]
 | .agg cs,h=>by grind [V.men,AE,V.pure]
 | .tup vs,h=>by simp only [V.men];exact Om id vs (by simpa only [V.pure] using h)
 | .g b v,h=>by
   cases b with
   | false=>simp [V.men]
   | true=>simp only [V.pure,Bool.not_true,Bool.false_or]at h;simp [V.men,IM id v h]
 | .undef,_=>by simp [V.men]
theorem Om (id:Ae): ∀ vs:List V,Bv vs=true→GG id vs=false
 | [],_=>by simp [GG]
 | v::vs,h=>by
   simp only [Bv,Bool.and_eq_true]at h
   simp [GG,IM id v h.1,Om id vs h.2]
end
def im (av:Nat→Prop):Au:=⟨fun _=>none,fun _=>none,av⟩
theorem Oo {w:World} {av:Nat→Prop} {G:Au} (hG: ∀ b,b<w.heap.size→G.wr b→av b) {x:V} {v:Value} (hp:x.pure=true) (h:Ab w (im av) x v):Ab w G x v:=
 Ab.mono (G:=im av) (G':=G) ⟨Nat.le_refl _,fun _ _ _=>rfl,fun b hb hw=>hG b hb hw,fun _ _ _ _=>Bt.same rfl⟩ x v (fun id hid=>absurd (show x.men id=true from hid) (by rw [IM id x hp];simp)) h
theorem YJ {w:World} {av:Nat→Prop} {G:Au} (hG: ∀ b,b<w.heap.size→av b→G.wr b) {x:V} {v:Value} (hp:x.pure=true) (h:Ab w G x v):Ab w (im av) x v:=
 Ab.mono (G:=G) (G':=im av) ⟨Nat.le_refl _,fun _ _ _=>rfl,fun b hb hw=>hG b hb hw,fun _ _ _ _=>Bt.same rfl⟩ x v (fun id hid=>absurd (show x.men id=true from hid) (by rw [IM id x hp];simp)) h
def Gm (id:Ae) (len:Nat) (cs:List C):C→C
 | .osl i=>if i=id then .sl len cs else .osl i
 | .ptr i o=>if i=id then .any else .ptr i o
 | .bsl i o n=>if i=id then .any else .bsl i o n
 | .rsl i N o n=>if i=id then .any else .rsl i N o n
 | .bld i T=>if i=id then .any else .bld i T
 | .mref i=>if i=id then .any else .mref i
 | .clo f ds=>if Bd id ds then .any else .clo f ds
 | .bmv f ds=>if Bd id ds then .any else .bmv f ds
 | c=>c
mutual
def GY (id:Ae) (len:Nat) (cs:List C):V→V
 | .c x=> .c (Gm id len cs x)
 | .agg ds=> .agg (ds.map (Gm id len cs))
 | .tup vs=> .tup (HV id len cs vs)
 | .g b v=> .g b (GY id len cs v)
 | .undef => .undef
def HV (id:Ae) (len:Nat) (cs:List C):List V→List V
 | []=>[]
 | v::vs=>GY id len cs v::HV id len cs vs
end
def Ak.frz (id:Ae) (len:Nat) (cs:List C) (e:Ak):Ak:=match e with
 | ⟨i,r,ds,true⟩=>⟨i,r,ds,true⟩
 | ⟨i,r,ds,false⟩=>⟨i,r,ds.map (Gm id len cs),false⟩
theorem Ak.frz_id (id:Ae) (len:Nat) (cs:List C) (e:Ak):(e.frz id len cs).id =e.id:=by obtain⟨i,r,cs,_ | _⟩:=e<;>rfl
theorem Ak.frz_mp {id:Ae} {len:Nat} {cs:List C} {e:Ak} {kv:List (Int×Int)} (h:e.cs=[.mp kv]):(e.frz id len cs).cs =[.mp kv]:=by
 obtain⟨i,r,ds,_ | _⟩:=e
 ·simp only at h;subst h;rfl
 ·exact h
theorem Ak.frz_row (id:Ae) (len:Nat) (cs:List C) (e:Ak):(e.frz id len cs).row =e.row:=by obtain⟨i,r,cs,_ | _⟩:=e<;>rfl
def St.freeze (st:St) (id:Ae):St:=
 match st.look id with
 | some e=>match e.row with
   | some (_,_,len)=>if !e.pu then st else
    {tm:=st.tm.map (GY id len e.cs),so:=(st.so.filter (fun d=>d.id != id)).map (Ak.frz id len e.cs),gh:=HV id len e.cs st.gh,pre:=st.pre}
   | none=>st
 | none=>st
section
variable {F:Fr} {w:World} {G:Au} {id:Ae} {len:Nat} {cs:List C}
structure mP (F:Fr) (w:World) (G:Au) (id:Ae) (len:Nat) (cs:List C):Prop where
 own: ∀ v,G.own id=some v→Ac w (Bo F G id none none) (.sl len cs) v
 keeps:BE G (Bo F G id none none) w w
theorem U9 (hf:mP F w G id len cs) {c:C} {v:Value} (h:Ac w G c v):Ac w (Bo F G id none none) (Gm id len cs c) v:=by
 have hm: ∀ d:C,d.men id=false→Ac w G d v→Ac w (Bo F G id none none) d v:=fun d hd hr=>
  Ac.mono hf.keeps d v (by grind [Cl]) hr
 cases c with
 | osl i=>
   simp only [Gm]
   split
   ·rename_i hi;subst hi;simp only [Ac]at h;exact hf.own v h.1
   grind [C.men]
 | ptr i o=>
   simp only [Gm]
   split
   ·simp only [Ac];exact h.one
   grind [C.men]
 | bsl i o n=>
   simp only [Gm]
   split
   ·simp only [Ac];exact h.one
   grind [C.men]
 | rsl i N o n=>
   simp only [Gm]
   split
   ·simp only [Ac];exact h.one
   grind [C.men]
 | bld i T=>
   simp only [Gm]
   split
   ·simp only [Ac];exact h.one
   grind [C.men]
 | sl l ds=>exact hm (.sl l ds) (by simp [C.men]) h
 | iptr ds o=>exact hm (.iptr ds o) (by simp [C.men]) h
 | int k n=>exact hm (.int k n) (by simp [C.men]) h
 | bool b=>exact hm (.bool b) (by simp [C.men]) h
 | str s=>exact hm (.str s) (by simp [C.men]) h
 | nilp=>exact hm (.nilp) (by simp [C.men]) h
 | niface=>exact hm (.niface) (by simp [C.men]) h
 | nils=>exact hm (.nils) (by simp [C.men]) h
 | fn f=>exact hm (.fn f) (by simp [C.men]) h
 | clo f ds=>
   simp only [Gm]
   split
   ·simp only [Ac];exact h.one
   grind [C.men]
 | bmv f ds=>
   simp only [Gm]
   split
   ·simp only [Ac];exact h.one
   grind [C.men]
 | held=>exact hm (.held) (by simp [C.men]) h
 | any=>exact hm (.any) (by simp [C.men]) h
 | mref i=>
   simp only [Gm]
   split
   ·simp only [Ac];exact h.one
   grind [C.men]
 | mp kv=>exact hm (.mp kv) (by simp [C.men]) h
 | gptr g o=>exact hm (.gptr g o) (by simp [C.men]) h
 | isl E n l ds=>exact hm (.isl E n l ds) (by simp [C.men]) h
theorem Oq (hf:mP F w G id len cs): ∀ {ds:List C} {vs:List Value},Ag w G ds vs→Ag w (Bo F G id none none) (ds.map (Gm id len cs)) vs
 | [],[],_=>by simp [Ag]
 | [],_::_,h=>by simp [Ag]at h
 | _::_,[],h=>by simp [Ag]at h
 | c::ds,v::vs,h=>by
   simp only [Ag]at h
   simp only [List.map_cons,Ag]
   exact⟨U9 hf h.1,Oq hf h.2⟩
mutual
theorem Or (hf:mP F w G id len cs): ∀ (x:V) (v:Value),Ab w G x v→Ab w (Bo F G id none none) (GY id len cs x) v
 | .c x,v,h=>by grind [Ab,GY,U9]
 | .agg ds,v,h=>by
   grind [Ab,GY,Oq]
 | .tup vs,v,h=>by
   simp only [Ab,GY]at h ⊢
   obtain⟨arr,e,hr⟩:=h
   exact⟨arr,e,LN hf vs _ hr⟩
 | .g b x,v,h=>by
   simp only [Ab,GY]at h ⊢
   split
   all_goals simp_all [Or]
 | .undef,_,_=>by simp only [Ab,GY]
theorem LN (hf:mP F w G id len cs): ∀ (xs:List V) (vs:List Value),An w G xs vs→An w (Bo F G id none none) (HV id len cs xs) vs
 | [],_,h=>by grind [An,HV]
 | x::xs,vs,h=>by
   simp only [An,HV]at h ⊢
   obtain⟨v,r,e,h1,h2⟩:=h
   exact⟨v,r,e,Or hf x v h1,LN hf xs r h2⟩
end
end
theorem R.frz {F:Fr} {st:St} {a:Act} {w:World} {G:Au} (h:R F st a w G) {id:Ae} {e:Ak} (he:st.look id=some e) {E n len:Nat} (hrow:e.row=some (E,n,len)) (hpu:Aj e.cs=true):
 mP F w G id len e.cs where
 keeps:=h.keeps id none none (Nat.le_refl _) (fun _ _ _=>rfl) (by grind)
 own:=by
  intro v hv
  obtain⟨hm,hid⟩:=AK he
  have hE:=h.store e hm
  unfold AJ at hE
  rw [hrow]at hE
  obtain⟨hl,v',h1,h2⟩:=hE
  rw [hid,hv]at h1
  injection h1 with h1;subst h1
  have hmen:=AE id e.cs hpu
  simp only [Ac]
  refine⟨hpu,?_⟩
  rcases h2 with ⟨p,rfl,h0,_⟩ | ⟨b,cap,cur,rfl,e2,e3,e4,e5,e6,e7⟩
  ·refine⟨p,0,by rw [h0],by omega,by grind,fun _=>?_, .inl h0⟩
   simp_all
  ·rw [hid]at e2
   refine⟨_,cap,rfl,e4,e5,fun h0=>?_, .inr ⟨b,0,rfl,?_,h.lt id b e2,?_⟩⟩
   ·simp_all
   ·simp only [Bo]
    rintro(q | ⟨i,q⟩)
    ·rcases h.new id b e2 with q2 | q2
     ·have:=h.avlt b q;omega
     ·exact h.avold b q2 q
    ·split at q
     ·cases q
     ·rename_i hi;exact hi (h.inj i id b q e2)
   ·have hk:=h.keeps id none none (Nat.le_refl _) (fun _ _ _=>rfl) (by grind)
    exact Ai.mono hk _ _ _ (by grind [Cl]) (fun _=>rfl) e7
def St.okFrz (st:St) (id:Ae):Bool:=
 match st.look id with
 | some e=>match e.row with
   | some _=>e.pu
   | none=>false
 | none=>false
theorem R.freeze {F:Fr} {st:St} {a:Act} {w:World} {G:Au} (h:R F st a w G) (id:Ae):
 ∃ G',R F (st.freeze id) a w G'∧(∀ b,G'.wr b→G.wr b)∧(st.okFrz id=true→ ∀ b,G.blk id=some b→ ¬G'.wr b):=by
 have hid: ∀ b,G.wr b→G.wr b:=fun _ q=>q
 unfold St.freeze
 split
 ·rename_i e he
  split
  ·rename_i E n len hrow
   split
   ·grind [St.okFrz]
   ·rename_i hmen
    have hm0:=(AK he).1
    have hf:=h.frz he hrow (h.pures e hm0 (by grind))
    refine⟨Bo F G id none none,h.rename id none none ⟨rfl,rfl,rfl⟩ (Nat.le_refl _) (fun _ _ _=>rfl) (by grind) _ (by simp) ?_ ?_ ?_ ?_ ?_ ?_,?_,?_⟩
    rotate_right 2
    ·intro b hb
     simp only [Bo]at hb
     rw [h.wr]
     grind
    ·intro _ b hb hw
     simp only [Bo]at hw
     rcases hw with q | ⟨i,q⟩
     ·rcases h.new id b hb with q2 | q2
      ·have:=h.avlt b q;omega
      ·exact h.avold b q2 q
     ·split at q
      ·cases q
      ·rename_i hi;exact hi (h.inj i id b q hb)
    ·intro i
     simp only
     rw [DB (st:=st) (by simp [GY])]
     exact Or hf _ _ (h.slots i)
    ·exact LN hf _ _ h.ghosts
    ·intro d hd
     simp only [List.mem_map,List.mem_filter]at hd
     obtain⟨d',⟨hd',hne⟩,rfl⟩:=hd
     have:=h.pures d' hd'
     obtain⟨i,r,ds,pu⟩:=d'
     cases pu with
     | true=>exact this
     | false=>intro hq;cases hq
    ·intro d hd
     simp only [List.mem_map,List.mem_filter]at hd
     obtain⟨d',⟨hd',hne⟩,rfl⟩:=hd
     have hne':d'.id ≠ id:=by grind
     have hE:=h.store d' hd'
     have hpd:=h.pures d' hd'
     have hrow: ∀ {b o},Ai w G d'.cs b o→Ai w (Bo F G id none none) (d'.frz id len e.cs).cs b o:=fun hr=>by
      obtain⟨vs,q1,q2⟩:=hr.list
      obtain⟨i,r,ds,pu⟩:=d'
      cases pu with
      | true=>exact Ai.mono hf.keeps _ _ _ (Cl (fun j hj he=>by subst he;have hj':Bd j ds=true:=hj;rw [AE j ds (hpd rfl)]at hj';cases hj')) (fun _=>rfl) hr
      | false=>exact Ai.of_list (Oq hf q1) q2
     have hlen:(d'.frz id len e.cs).cs.length =d'.cs.length:=by obtain⟨i,r,ds,_ | _⟩:=d'<;>simp [Ak.frz]
     have hfi:=Ak.frz_id id len e.cs d'
     have hfr:=Ak.frz_row id len e.cs d'
     unfold AJ at hE ⊢
     rw [hfr]
     have eb:(Bo F G id none none).blk d'.id=G.blk d'.id:=by simp [Bo,hne']
     have eo:(Bo F G id none none).own d'.id=G.own d'.id:=by simp [Bo,hne']
     rw [hfi,eb,eo]
     split at hE
     ·obtain⟨b,q1,q2⟩:=hE
      refine⟨b,q1,?_⟩
      rcases q2 with ⟨kv,es,q2,q3⟩ | ⟨T,cur,q2,q3,q4⟩
      ·exact .inl ⟨kv,es,Ak.frz_mp q2,q3⟩
      ·exact .inr ⟨T,cur,q2,by rw [hlen];exact q3,hrow q4⟩
     ·obtain⟨hl,v,q1,q2⟩:=hE
      refine⟨by grind,v,q1,?_⟩
      rcases q2 with q2 | ⟨b,cap,cur,e1,e2,e3,e4,e5,e6,e7⟩
      ·grind
      ·exact .inr ⟨b,cap,cur,e1,e2,e3,e4,e5,e6,hrow e7⟩
    ·intro d hd
     simp only [List.mem_map,List.mem_filter]at hd
     obtain⟨d',⟨hd',hne⟩,rfl⟩:=hd
     have hne':d'.id ≠ id:=by grind
     have hmk: ∀ k,A9 k d'.id ≠ id:=fun k q=>by
      have h2:=(h.deep e hm0).1
      rw [(AK he).2, ←q]at h2
      cases h2
     have hD:AY w G (d'.frz id len e.cs):=by
      have h1:=h.deep d' hd'
      obtain⟨i,r,ds,pu⟩:=d'
      cases pu with
      | true=>exact h1
      | false=>exact⟨h1.1,fun hq=>absurd (h1.2 hq).1 (by simp)⟩
     have hfi:=Ak.frz_id id len e.cs d'
     exact AY.mono hf.keeps (by grind [Bo]) (by grind [Bo]) (fun _ _=>rfl) (fun _ _ _ _=>rfl) hD
    ·have:(((st.so.filter (fun d=>d.id != id)).map (Ak.frz id len e.cs)).map (·.id))=(st.so.filter (fun d=>d.id != id)).map (·.id):=by
      simp_all [Ak.frz_id]
     simp only
     rw [this]
     exact List.Sublist.nodup (by grind [List.filter_sublist]) h.nodup
  grind [St.okFrz]
 grind [St.okFrz]
end Go.PL
namespace Go.PL
open Go Go.RowKit
theorem MF {w:World} {G:Au}: ∀ {cs:List C} {vs:List Value},cs.length=vs.length→(∀ (i:Nat) (c:C) (v:Value),cs[i]? =some c→vs[i]? =some v→Ac w G c v)→Ag w G cs vs
 | [],[],_,_=>by simp [Ag]
 | [],_::_,h,_=>by simp at h
 | _::_,[],h,_=>by simp at h
 | c::cs,v::vs,h,hr=>by
   simp only [Ag]
   exact⟨hr 0 c v (by simp) (by simp),MF (by simpa using h) (fun i c' v' h1 h2=>hr (i+1) c' v' (by simpa using h1) (by simpa using h2))⟩
def Bj (z:List C) (k:Nat):List C:=(List.range (k*z.length)).map (fun i=>z.getD (i % z.length) .any)
theorem GZ {w:World} {G:Au} {z:List C} {zv:Array Value} (h:Ag w G z zv.toList) (hz:0<z.length) (k:Nat):
 Ag w G (Bj z k) ((Array.range (k*zv.size)).map (zv[· % zv.size]!)).toList :=by
 have hl:z.length=zv.size:=by simpa using h.length
 refine MF (by simp [Bj,hl]) (fun i c v h1 h2=>?_)
 simp only [Bj,List.getElem?_map]at h1
 simp only [Array.toList_map,List.getElem?_map,Array.toList_range]at h2
 by_cases hi:i<k*z.length
 ·rw [List.getElem?_range (by omega)]at h1
  rw [List.getElem?_range (by rw [←hl];omega)]at h2
  simp only [Option.map_some,Option.some.injEq]at h1 h2
  have hm:i % z.length<z.length:=Nat.mod_lt _ hz
  obtain⟨v',q1,q2⟩:=h.get (i % z.length) z[i % z.length] (by simp [hm])
  grind
 grind
theorem Va: ∀ {v:Value} {c:C},BK v=some c→c.pure=true:=by
 intro v c h
 unfold BK at h
 split at h<;>first | (cases h;done) | (injection h with h;subst h;rfl)
theorem MG: ∀ {vs:List Value} {cs:List C},CD vs=some cs→Aj cs=true
 | [],cs,h=>by simp [CD]at h;subst h;rfl
 | v::vs,cs,h=>by
   unfold CD at h
   split at h
   ·rename_i c cs' h1 h2
    injection h with h;subst h
    simp only [Aj,Va h1,MG h2,Bool.and_self]
   ·cases h
theorem MH {z:List C} (h:Aj z=true) (k:Nat):Aj (Bj z k)=true:=IK _ (fun _=>ZQ _ h) _
def Ot:Value→Option C
 | .slice none 0 0=>some .nils
 | v=>BK v
def Fm:List Value→Option (List C)
 | []=>some []
 | v::vs=>match Ot v,Fm vs with
   | some c,some cs=>some (c::cs)
   | _,_=>none
theorem Vb {w:World} {G:Au}: ∀ {v:Value} {c:C},Ot v=some c→Ac w G c v:=by
 grind [Ot,Ac,Jk]
theorem Gt {w:World} {G:Au}: ∀ {vs:List Value} {cs:List C},Fm vs=some cs→Ag w G cs vs
 | [],cs,h=>by grind [Fm,Ag]
 | v::vs,cs,h=>by
   unfold Fm at h
   split at h
   ·rename_i c cs' h1 h2
    injection h with h;subst h
    simp only [Ag]
    exact⟨Vb h1,Gt h2⟩
   ·cases h
def MI (P:Program) (t:TypeId):Option (List C):=
 match P.info? t with
 | some i=>match i.zero with
   | some z=>Fm z.cells.toList
   | none=>none
 | none=>none
theorem Js {P:Program} {t:TypeId} {cs:List C} (h:MI P t=some cs): ∃ i z,P.info? t=some i∧i.zero=some z∧Fm z.cells.toList=some cs:=by
 grind [MI]
def Ed:C→C
 | .nils => .sl 0 []
 | c=>c
def V.weak:V→V
 | .c x=> .c (Ed x)
 | .agg cs=> .agg (cs.map Ed)
 | v=>v
def Ky (p:Nat×V):Nat×V:=(p.1,p.2.weak)
theorem G4 {w:World} {G:Au} {c:C} {v:Value} (h:Ac w G c v):Ac w G (Ed c) v:=by
 cases c<;>try exact h
 simp only [Ac]at h
 subst h
 simp only [Ed,Ac]
 exact⟨rfl,none,0,rfl,Nat.le_refl _,Nat.zero_le _,fun _=>trivial, .inl trivial⟩
theorem LO {w:World} {G:Au}: ∀ {cs:List C} {vs:List Value},Ag w G cs vs→Ag w G (cs.map Ed) vs
 | [],[],_=>by simp [Ag]
 | [],_::_,h=>by grind
 | _::_,[],h=>by simp [Ag]at h
 | c::cs,v::vs,h=>by
   simp only [Ag]at h
   simp only [List.map_cons,Ag]
   exact⟨G4 h.1,LO h.2⟩
theorem ZX {w:World} {G:Au} {x:V} {v:Value} (h:Ab w G x v):Ab w G x.weak v:=by
 cases x<;>grind [V.weak,Ab,G4,LO]
structure pY (P:Program) (F:Fr) (o:Oper) (a:Act) (w:World) (st':St):Prop where
 out: ∃ nx w' G',(execOp a.eval o).run P w= .ok nx w'∧((∃ v,nx= .value v∧R F st' (a.put o.dst v) w' G')∨(nx= .skip ∧R F st' (a.put o.dst Go.undef) w' G'))
def St.parts (st:St) (g:Bool) (ps:List (Nat×Operand)):Prop×List (Nat×V):=
 match ps with
 | []=>(True,[])
 | (i,x)::r=>((st.arg g x).1∧(St.parts st g r).1,(i,(st.arg g x).2)::(St.parts st g r).2)
theorem R.parts {F:Fr} {st:St} {a:Act} {w:World} {G:Au} (h:R F st a w G) {g:Bool} (hg:g=true): ∀ {ps:List (Nat×Operand)},(st.parts g ps).1→H5 w G (st.parts g ps).2 (ps.map fun(i,x)=>(i,a.eval x))
 | [],_=>by simp [St.parts,H5]
 | (i,x)::r,hs=>by
   simp only [St.parts]at hs ⊢
   simp only [List.map_cons,H5]
   exact⟨trivial,h.arg hg hs.1,h.parts hg hs.2⟩
def cf (P:Program) (t:TypeId) (i:Nat):Option (Nat×Nat):=
 match P.underlying t with
 | some (.array _ e)=>match P.info? e with
   | some inf=>some (i*inf.size,inf.size)
   | none=>none
 | some (.struct fs)=>match fs.toList.mapM (fun f=>(P.info? f.type).map fun i=>(f.offset,i.size))with
   | some ps=>ps[i]?
   | none=>none
 | _=>none
def Rx (P:Program) (t:TypeId):Bool:=
 match P.underlying t with
 | some (.array _ e)=>(P.info? e).isSome
 | some (.struct fs)=>(fs.toList.mapM (fun f=>(P.info? f.type).map fun i=>(f.offset,i.size))).isSome
 | _=>false
def Ib (P:Program) (st:St) (g:Bool) (t:TypeId) (ps:List (Nat×Operand)):Prop×V:=
 match MI P t with
 | some z=>match Ff (cf P t) z (st.parts g ps).2 with
   | some cs=>((st.parts g ps).1∧Rx P t=true, .agg cs)
   | none=>no
 | none=>no
def Kz (st:St) (n:Nat):V→Option (Nat×List C×Bool)
 | .c (.sl m cs)=>if cs.length=m*n then some (m,cs,true)else none
 | .c (.osl id)=>match st.look id with
   | some e=>match e.row with
     | some (_,n',m)=>if n'=n then some (m,e.cs,e.pu)else none
     | none=>none
   | none=>none
 | _=>none
def BN (P:Program) (t:TypeId):Option (TypeId×Nat×Nat):=
 match P.underlying t with
 | some (.slice e)=>match P.info? e with
   | some i=>match i.zero with
     | some z=>if z.cells.size=i.size then some (e,i.size,i.bytes)else none
     | none=>none
   | none=>none
 | _=>none
def Em (P:Program) (st:St) (T:TypeId) (x y:V):Prop×St:=
 match x,y.cells,Fd P T with
 | .c (.ptr id off),some cs,some (_,n)=>match st.look id with
   | some e=>(cs.length=n∧off+n≤e.cs.length,st.setCs id (e.cs.take off++cs++e.cs.drop (off+cs.length)) (Aj cs))
   | none=>(False,st)
 | _,_,_=>(False,st)
def DT (P:Program) (st:St) (d:Nat) (t:TypeId) (s x:V):Prop×St:=
 match s,BN P t with
 | .c (.osl id),some (E,n,by')=>match st.look id,Kz st n x with
   | some e,some (m,cs,q)=>match e.row with
     | some (E',n',len)=>(E'=E∧n'=n∧0<n∧(len+m)*by'≤140737488355328∧len+m≤maxLen,(st.new ⟨id,some (E,n,len+m),e.cs++cs,e.pu&&q⟩).put (some d) (.c (.osl id)))
     | none=>(False,st)
   | _,_=>(False,st)
 | _,_=>(False,st)
def MJ (P:Program) (st:St) (d:Nat) (t:TypeId) (x y:V):Prop×St:=
 match x,y,BZ P t with
 | .c (.bsl id off len), .c (.bsl id2 off2 len2),some (_,1)=>match st.look id,st.look id2 with
   | some e,some e2=>(off+Nat.min len2 len≤e.cs.length∧off2+Nat.min len2 len≤e2.cs.length,
    (st.setCs id (e.cs.take off++(e2.cs.drop off2).take (Nat.min len2 len)++e.cs.drop (off+((e2.cs.drop off2).take (Nat.min len2 len)).length)) (Aj ((e2.cs.drop off2).take (Nat.min len2 len)))).put (some d) (.c (.int .i64 (Nat.min len2 len:Nat))))
   | _,_=>(False,st)
 | _,_,_=>(False,st)
def Gu (P:Program) (st:St) (d:Nat) (t:TypeId) (l c:V):Prop×St:=
 match l,c,BN P t with
 | .c (.int _ l), .c (.int _ c),some (E,n,by')=>match HU P E with
   | some z=>(0≤l∧l≤c∧c*by'≤140737488355328∧c≤maxLen∧z.length=n∧0<n,(st.new ⟨d::st.pre,some (E,n,l.toNat),Bj z l.toNat,true⟩).put (some d) (.c (.osl (d::st.pre))))
   | none=>(False,st)
 | _,_,_=>(False,st)
def AI (P:Program) (st:St) (d:Nat) (t:TypeId) (len:Nat) (ps:List (Nat×Operand)):Prop×St:=
 match BN P t with
 | some (E,n,_)=>match HU P E with
   | some z=>match Ff (fun i=>some (i*n,n)) (Bj z len) ((st.parts true ps).2.map Ky)with
     | some cs=>((st.parts true ps).1∧z.length=n∧0<n∧len*n≤2 ^ 24,(st.new ⟨d::st.pre,some (E,n,len),cs,Aj cs⟩).put (some d) (.c (.osl (d::st.pre))))
     | none=>(False,st)
   | none=>(False,st)
 | none=>(False,st)
def Xd:Operand→V→V
 | .const (.slice none 0 0),_=> .c .nils
 | _,v=>v
def NF (st:St) (x v:V):V:=
 match v with
 | .c .nils =>match x with
   | .c (.ptr id _)=>match st.look id with
     | some e=>match e.row with
       | some _=> .c (.sl 0 [])
       | none=>v
     | none=>v
   | _=>v
 | _=>v
theorem Vc {w:World} {G:Au} {st:St} {x v:V} {u:Value} (h:Ab w G v u):Ab w G (NF st x v) u:=by
 unfold NF
 split
 ·have h2:Ab w G (.c (.sl 0 [])) u:=by
   simp only [Ab]at h ⊢
   exact G4 h
  grind
 ·exact h
theorem Vd {w:World} {G:Au} {a:Act} {y:Operand} {v:V} (h:Ab w G v (a.eval y)):Ab w G (Xd y v) (a.eval y):=by
 unfold Xd
 split
 ·simp only [Ab,Ac];rfl
 ·exact h
def ef (P:Program) (st:St) (o:Oper):Prop×St:=
 match o.op with
 | .store T x y=>let r:=Em P st T (st.arg true x).2 (NF st (st.arg true x).2 (Xd y (st.arg true y).2))
   ((st.arg true x).1∧(st.arg true y).1∧r.1,r.2.put o.dst .undef)
 | op=>match o.dst with
   | none=>(False,st)
   | some d=>match op with
     | .alloc T=>match MI P T with
       | some cs=>(True,(st.new ⟨d::st.pre,none,cs,false⟩).put (some d) (.c (.ptr (d::st.pre) 0)))
       | none=>(False,st)
     | .box T x=>match (st.arg true x).2.cells with
       | some cs=>((st.arg true x).1∧T=T,(st.new ⟨d::st.pre,none,cs,false⟩).put (some d) (.c (.ptr (d::st.pre) 0)))
       | none=>(False,st)
     | .assign (.const (.slice none 0 0))=>match BZ P o.type with
       | some (E,n)=>(True,(st.new ⟨d::st.pre,some (E,n,0),[],true⟩).put (some d) (.c (.osl (d::st.pre))))
       | none=>(False,st)
     | .buildSlice t len ps=>AI P st d t len ps.toList
     | .makeSlice t l c=>let r:=Gu P st d t (st.arg true l).2 (st.arg true c).2
       ((st.arg true l).1∧(st.arg true c).1∧r.1,r.2)
     | .call c=>match c.callee,c.args.toList,c.argTypes.toList with
       | .builtin .append,[s,x],[t,t']=>let r:=DT P st d t (st.arg true s).2 (st.arg true x).2
         ((st.arg true s).1∧(st.arg true x).1∧t=t'∧r.1,r.2)
       | .builtin .copy,[s,x],[t,t']=>let r:=MJ P st d t (st.arg true s).2 (st.arg true x).2
         ((st.arg true s).1∧(st.arg true x).1∧t'=t'∧r.1,r.2)
       | _,_,_=>(False,st)
     | _=>(False,st)
theorem IP {w:World} {G:Au}: ∀ {xs:List (Nat×V)} {ys:List (Nat×Value)},H5 w G xs ys→H5 w G (xs.map Ky) ys
 | [],[],h=>h
 | (i,x)::xs,(j,v)::ys,h=>by
   simp only [H5]at h
   simp only [List.map_cons,Ky,H5]
   exact⟨h.1,ZX h.2.1,IP h.2.2⟩
 | [],_::_,h=>by grind
 | _::_,[],h=>by simp [H5]at h
theorem S2 {P:Program} {F:Fr} {st:St} {a:Act} {w:World} {G:Au} (h:R F st a w G) {g:Bool} (hg:g=true) {t:TypeId} {ps:Array (Nat×Operand)} (hs:(Ib P st g t ps.toList).1):
 ∃ v,Ab w G (Ib P st g t ps.toList).2 v∧ ∀ w',(Instr.build t (ps.map fun(i,x)=>(i,a.eval x))).run P w'= .ok v w':=by
 unfold Ib at *
 split at hs
 ·rename_i z hz
  split at hs
  ·rename_i cs hf
   obtain⟨i,zv,hi,hzv,hc⟩:=Js hz
   obtain⟨arr',q1,q2⟩:=FM hf (h.parts hg hs.1) (Gt (w:=w) (G:=G) hc)
   refine⟨.agg arr',⟨arr',rfl,q2⟩,fun w'=>run_build w' t _ arr' ?_⟩
   have hok:=hs.2
   unfold Rx at hok
   unfold Program.built
   rw [hi]
   split at hok
   ·rename_i n e hu
    cases hie:P.info? e with
    | none=>grind
    | some ie=>
      simp only [hu,hzv,hie]
      have e1:cf P t=fun i=>some (i*ie.size,ie.size):=by
       grind [cf]
      simp_all
   ·rename_i fs hu
    cases hm:fs.toList.mapM (fun f=>(P.info? f.type).map fun i=>(f.offset,i.size))with
    | none=>grind
    | some pl=>
      simp only [hu,hzv,hm]
      have e1:cf P t=fun i=>pl[i]? :=by
       grind [cf]
      simp_all
   ·cases hok
  grind
 grind
theorem A8 {P:Program} {t e:TypeId} {n by':Nat} (h:BN P t=some (e,n,by')):
 ∃ i z,P.underlying t=some (.slice e)∧P.info? e=some i∧i.zero=some z∧i.size=n∧i.bytes=by'∧z.cells.size=n:=by
 unfold BN at h
 grind
theorem KA {P:Program} {F:Fr} {st:St} {a:Act} {w:World} {G:Au} (h:R F st a w G) {T:TypeId} {x y:V} {u v:Value} (hx:Ab w G x u) (hy:Ab w G y v) (hs:(Em P st T x y).1):
 ∃ w',(Instr.storeAt T u v).run P w= .ok () w'∧R F (Em P st T x y).2 a w' G:=by
 unfold Em at *
 split at hs
 ·rename_i id off cs ag n hc ht
  split at hs
  ·rename_i e he
   obtain⟨h1,h2⟩:=hs
   obtain⟨d,i,hu,hd,hi,hsz⟩:=Br ht
   simp only [Ab,Ac]at hx
   obtain⟨b,hb,rfl⟩:=hx
   have hv:=FL hy hc
   have hlv:=hv.length
   obtain⟨cur,T',hheap,hfit,hR⟩:=h.stored he hb (off:=off) (xs:=cs) hv (by omega)
   refine⟨_,?_,hR⟩
   have hst:=run_storeCells_at P b off T' v.cells.toList 0 cur w hheap (by simpa using hfit) (Ag.one hv)
   simp only [Nat.add_zero]at hst
   simp_all [Instr.storeAt,Instr.sureAddr,storeVar,sizeOf,typeInfo]
  grind
 grind
theorem Ve {F:Fr} {st:St} {a:Act} {w:World} {G:Au} (h:R F st a w G) {n m:Nat} {x:V} {cs:List C} {q:Bool} {u:Value} (hs:Kz st n x=some (m,cs,q)) (hx:Ab w G x u):
 (q=true→Aj cs=true)∧ ∃ ad cap vs,u= .slice ad m cap∧Ag w G cs vs∧vs.length=m*n∧(ad=none→m=0)∧ ∀ b,ad=some b→ ∀ j v,vs[j]? =some v→w.cell? (b.add j)=some v:=by
 unfold Kz at hs
 split at hs
 ·split at hs
  ·rename_i hl
   simp only [Option.some.injEq,Prod.mk.injEq]at hs
   obtain⟨rfl,rfl,rfl⟩:=hs
   simp only [Ab,Ac]at hx
   refine⟨fun _=>hx.1,?_⟩
   obtain⟨_,ad,cap,rfl,_,_,h0,h1 | ⟨b,o,rfl,_,_,hr⟩⟩:=hx
   ·have:=h0 h1;subst this
    exact⟨ad,cap,[],rfl,by simp [Ag],by grind,fun _=>h1,(by grind)⟩
   ·obtain⟨vs,q1,q2⟩:=hr.list
    have:=q1.length
    exact⟨_,cap,vs,rfl,q1,by omega,(by simp),fun b' hb' j v hv=>by injection hb' with hb';subst hb';rw [Addr.add_mid];exact q2 j v hv⟩
  ·cases hs
 ·split at hs
  ·rename_i e hlk
   split at hs
   ·rename_i E n' m' hrow
    split at hs
    ·rename_i hn
     simp only [Option.some.injEq,Prod.mk.injEq]at hs
     obtain⟨rfl,rfl,rfl⟩:=hs
     obtain⟨hm,hid⟩:=AK hlk
     refine⟨h.pures e hm,?_⟩
     have hE:=h.store e hm
     obtain⟨v,vs,k1,k2,k3,k4⟩:=Cq hrow hE
     simp only [Ab,Ac]at hx
     rw [hid]at k1
     rw [k1]at hx
     obtain⟨hx,_⟩:=hx
     injection hx with hx;subst hx
     rcases k4 with ⟨k4,k5⟩ | ⟨p,rfl,q0,rfl,_⟩
     rotate_left
     ·grind
     rcases k4.2 with ⟨q,q0⟩ | ⟨g,cap,cur,q,_⟩
     ·have:vs=[]:=by
       have:=k4.1;simp_all
      grind
     ·refine⟨_,cap,vs,q,k3,by rw [k4.1,hn],(by simp),fun b hb j v hv=>?_⟩
      injection hb with hb;subst hb
      exact k4.cells (by rw [q];rfl) j v hv
    ·cases hs
   ·cases hs
  ·cases hs
 ·cases hs
theorem QI {P:Program} {F:Fr} {st:St} {a:Act} {w:World} {G:Au} (h:R F st a w G) {d:Nat} {t ty:TypeId} {s x:V} {u v:Value} (hx:Ab w G s u) (hy:Ab w G x v) (hs:(DT P st d t s x).1):
 ∃ r w' G',(Builtin.append_ #[t,t] ty #[u,v]).run P w= .ok r w'∧R F (DT P st d t s x).2 (a.put (some d) r) w' G':=by
 unfold DT at *
 split at hs
 ·rename_i id E n by' hsel
  split at hs
  ·rename_i e m cs q hlk hsrc
   split at hs
   ·rename_i E' n' len hrow
    obtain⟨rfl,rfl,nl,hbytes,hmax⟩:=hs
    obtain⟨i,z,hu,hi,hz,hsz,hby,hzs⟩:=A8 hsel
    obtain⟨hm,hid⟩:=AK hlk
    obtain⟨u',xs,k1,k2,k3,k4⟩:=Cq hrow (h.store e hm)
    simp only [Ab,Ac]at hx
    rw [hid]at k1
    rw [k1]at hx
    obtain⟨hx,_⟩:=hx
    injection hx with hx;subst hx
    obtain⟨hqp,ad,cap,us,rfl,q1,q2,q3,q4⟩:=Ve h hsrc hy
    rcases k4 with ⟨k4,k5⟩ | ⟨p,rfl,rfl,rfl,k5⟩
    rotate_left
    ·rw [hid]at k5
     have hcs:e.cs=[]:=List.length_eq_zero_iff.1 (by simpa using k3.length)
     by_cases hm0:m=0
     ·subst hm0
      have hus:us=[]:=by grind
      subst hus
      have hc0:cs=[]:=List.length_eq_zero_iff.1 (by simpa using q1.length)
      subst hc0
      have hrun:(Builtin.append_ #[t,t] ty #[.slice (some p) 0 0, .slice ad 0 cap]).run P w= .ok (.slice (some p) 0 0) w:=by
       cases ad<;>simp [Builtin.append_,run_underlying hu,sizeOf,typeInfo,program,Sem.run,hi,Builtin.lenOf,Builtin.firstCells,storeCells,loadCells,loadCellsFrom]
      obtain⟨G',g1,g2⟩:=h.appended0 (id:=id) (e:=e) (E:=E') (n:=n') (p:=p) (e.pu&&q) hcs
      refine⟨_,w,G',hrun,?_⟩
      exact R.put (d:=some d) g1 (show Ab w G' (V.c (C.osl id)) (.slice (some p) 0 0) by simp only [Ab,Ac];grind)
     ·obtain⟨b,rfl⟩: ∃ b,ad=some b:=by
       cases ad<;>grind
      obtain⟨r,w',hrun,hown,hg,hfr⟩:=Dj (P:=P) (w:=w) t ty E' i z n' by' hu hi hz hsz hby hzs nl p b m cap us q2 (q4 b rfl) (by omega) (by omega) (by grind)
      obtain⟨G',g1,g2,g3⟩:=h.appended (len:=0) (v:= .slice none 0 0) (xs:=[]) hlk hqp k5.symm k3 q1 ⟨by simp, .inl ⟨rfl,rfl⟩⟩ (by simpa using hown) hg (.inr hfr)
      refine⟨r,w',G',hrun,?_⟩
      grind [R.put,Ab,Ac]
    rw [hid]at k5
    have main: ∀ r w',(Builtin.append_ #[t,t] ty #[u', .slice ad m cap]).run P w= .ok r w'→w'.ownsRow 0 E' n' r (len+m) (xs++us)→w.grownBy w' u'.ownBlock→(r.ownBlock=u'.ownBlock∨ ∀ b,r.ownBlock=some b→w.heap.size≤b)→
     ∃ r w' G',(Builtin.append_ #[t,t] ty #[u', .slice ad m cap]).run P w= .ok r w'∧R F ((st.new ⟨id,some (E',n',len+m),e.cs++cs,e.pu&&q⟩).put (some d) (.c (.osl id))) (a.put (some d) r) w' G':=by
     intro r w' hrun hown hg hfr
     obtain⟨G',g1,g2,g3⟩:=h.appended hlk hqp k5 k3 q1 k4 hown hg hfr
     exact⟨r,w',G',hrun,g1.put (by grind [Ab,Ac])⟩
    cases ad with
    | some b=>
      obtain⟨r,w',hrun,hown,hg,hfr⟩:=B4 (P:=P) (w:=w) t ty E' i z n' by' hu hi hz hsz hby hzs nl u' len xs k4 b m cap us q2 (q4 b rfl) (Ag.one q1) hmax hbytes
      grind
    | none=>
      have hm0:=q3 rfl
      subst hm0
      have hus:us=[]:=by grind
      subst hus
      refine main u' w ?_ (by grind) ⟨rfl,rfl,rfl,Nat.le_refl _,fun _ _ _=>rfl⟩ (.inl rfl)
      have hcap: ∃ bs c,u'= .slice bs len c∧len≤c∧(∀ b,bs=some b→b.spot=none):=by
       rcases k4.2 with ⟨q,q0⟩ | ⟨g,c,cur,q,_,_,q5,_⟩
       all_goals grind
      obtain⟨bs,c,rfl,hc,_⟩:=hcap
      cases bs<;>simp [Builtin.append_,run_underlying hu,sizeOf,typeInfo,program,Sem.run,hi,Builtin.lenOf,Builtin.firstCells,hc,storeCells]
   grind
  grind
 grind
theorem Vf {P:Program} {F:Fr} {st:St} {a:Act} {w:World} {G:Au} (h:R F st a w G) {d:Nat} {t t' ty:TypeId} {x y:V} {u v:Value} (hx:Ab w G x u) (hy:Ab w G y v) (hs:(MJ P st d t x y).1):
 ∃ r w' G',(Builtin.copy_ #[t,t'] ty #[u,v]).run P w= .ok r w'∧R F (MJ P st d t x y).2 (a.put (some d) r) w' G':=by
 unfold MJ at *
 split at hs
 ·rename_i id off len id2 off2 len2 E hsel
  split at hs
  ·rename_i e e2 he he2
   obtain⟨q1,q2⟩:=hs
   obtain⟨hu,inf,hi,hsz⟩:=BL hsel
   simp only [Ab,Ac]at hx hy
   obtain⟨b,cap,o,hb,rfl,_,ho1,ho⟩:=hx
   obtain⟨b2,cap2,o2,hb2,rfl,_,_,ho2⟩:=hy
   obtain⟨hm2,hid2⟩:=AK he2
   obtain⟨cur2,T2,_,_,hrow2⟩:=(h.store e2 hm2).row (NN he2) (by rw [hid2];exact hb2)
   obtain⟨vs,k1,k2⟩:=((hrow2.drop off2).take (Nat.min len2 len)).list
   have hlx:=k1.length
   have hl:((e2.cs.drop off2).take (Nat.min len2 len)).length =Nat.min len2 len:=by
    grind
   obtain⟨cur,T',hheap,hfit,hR⟩:=h.stored he hb (off:=off) k1 (by grind)
   have hw:w.setRow b (cur.toList.take o++vs++cur.toList.drop (o+vs.length)).toArray =w.setRow b (cur.toList.take off++vs++cur.toList.drop (off+vs.length)).toArray :=by
    by_cases hz:vs.length=0
    ·simp_all
    grind
   have hrun:=run_copy_row (P:=P) w t t' ty E b o len cap ⟨b2,o2,none⟩ len2 cap2 cur T' vs hu (by grind) hheap (by omega) (fun j v hv=>by
    have hj:j<vs.length:=(by grind)
    have e:o2=off2:=(by grind)
    subst e
    have:=k2 j v hv
    grind [Addr.add_mid]) (by omega) (Ag.one k1)
   rw [hw]at hrun
   refine⟨_,_,G,hrun,hR.put (d:=some d) ?_⟩
   grind [Ab,Ac,goInt]
  grind
 grind
theorem S3 {F:Fr} {w:World} {G:Au} {id:Ae} {b:Option Nat} {v:Value} (h:v.oneCell'=true):Ab w (Bo F G id b (some v)) (.c (.osl id)) v:=by
 simp [Ab,Ac,Bo,h]
theorem run_buildSlice' {P:Program} {w:World} {t E:TypeId} {i:TypeInfo} {zv:Value} {n len:Nat} {ps:Array (Nat×Value)} {arr':Array Value} (hu:P.underlying t=some (.slice E)) (hi:P.info? E=some i) (hz:i.zero=some zv)
 (hsz:i.size=n) (h3:0<n) (h4:len*n≤2 ^ 24) (hf:Instr.fill (fun i=>some (i*n,n)) ((Array.range (len*n)).map (zv.cells[· % zv.cells.size]!)) ps.toList=some arr'):
 (Instr.buildSlice t len ps).run P w= .ok (.slice (some ⟨w.heap.size,0,none⟩) len len) (w.alloc (.cells arr' E)):=by
 have hbig: ¬2 ^ 24<len*n:=by omega
 by_cases h0:len=0
 ·simp_all [Array.range_zero',Instr.buildSlice,run_underlying,sizeOf,typeInfo,newRow]
 ·have h1: ¬len*n=0:=by
   rw [Nat.mul_eq_zero];omega
  have h2:n ≠ 0:=by omega
  simp [Instr.buildSlice,run_underlying hu,sizeOf,typeInfo,hi,hsz,hbig,zeroValue,hz,hf,newRow]
  grind
theorem MK {P:Program} {F:Fr} {st:St} {a:Act} {w:World} {G:Au} (h:R F st a w G) {d:Nat} {t:TypeId} {l c:V} {u v:Value} (hx:Ab w G l u) (hy:Ab w G c v) (hs:(Gu P st d t l c).1):
 ∃ r w' G',(Instr.makeSlice t u v).run P w= .ok r w'∧R F (Gu P st d t l c).2 (a.put (some d) r) w' G':=by
 unfold Gu at *
 split at hs
 ·rename_i k1 l k2 c E n by' hsel
  split at hs
  ·rename_i z hz
   obtain⟨h0,h1,h2,h3,h4,h5⟩:=hs
   obtain⟨i,zv,hu,hi,hzv,hsz,hby,hzs⟩:=A8 hsel
   obtain⟨i',zv',hi',hzv',hc⟩:=El hz
   rw [hi]at hi';injection hi' with hi';subst hi'
   rw [hzv]at hzv';injection hzv' with hzv';subst hzv'
   simp only [Ab,Ac]at hx hy
   subst hx hy
   have hM:maxLen=9223372036854775807:=rfl
   have hrun:=run_make (P:=P) w t E i zv hu hi hzv k1 k2 l c h0 h1 (by rw [hby,Int.mul_comm];omega) (by omega)
   have hzr:=GZ (Dp (w:=w) (G:=G) hc) (by omega) l.toNat
   rw [hzs]at hzr
   have hle:l.toNat*n≤c.toNat*n:=Nat.mul_le_mul_right _ (by omega)
   have hrow:=h.row (d::st.pre) E n l.toNat c.toNat (Bj z l.toNat) (madeCells zv.cells (c.toNat*i.size)) _ hzr (by
    simp only [madeCells,Array.toList_map,Array.toList_range,List.length_map,List.length_range, ←List.map_take,hzs]
    grind) (by simp [Bj,h4]) (by rw [size_madeCells,hsz]) (by omega) (by omega) true (fun _=>MH (MG hc) _)
   exact⟨_,_,_,hrun,R.put (d:=some d) hrow (S3 rfl)⟩
  grind
 grind
theorem FN {P:Program} {F:Fr} {st:St} {a:Act} {w:World} {G:Au} (h:R F st a w G) {t E:TypeId} {len n by':Nat} {ps:Array (Nat×Operand)} {z cs:List C} (hsel:BN P t=some (E,n,by')) (hz:HU P E=some z)
 (hf:Ff (fun i=>some (i*n,n)) (Bj z len) ((st.parts true ps.toList).2.map Ky)=some cs) (h1:(st.parts true ps.toList).1) (h2:z.length=n) (h3:0<n) (h4:len*n≤2 ^ 24):
 ∃ arr',(Instr.buildSlice t len (ps.map fun(i,x)=>(i,a.eval x))).run P w= .ok (.slice (some ⟨w.heap.size,0,none⟩) len len) (w.alloc (.cells arr' E))∧Ag w G cs arr'.toList∧cs.length=len*n∧arr'.size=len*n∧len≤maxLen:=by
 obtain⟨i,zv,hu,hi,hzv,hsz,hby,hzs⟩:=A8 hsel
 obtain⟨i',zv',hi',hzv',hc⟩:=El hz
 rw [hi]at hi';injection hi' with hi';subst hi'
 rw [hzv]at hzv';injection hzv' with hzv';subst hzv'
 have hzr:=GZ (Dp (w:=w) (G:=G) hc) (by omega) len
 obtain⟨arr',q1,q2⟩:=FM hf (IP (h.parts rfl h1)) hzr
 have q1':Instr.fill (fun i=>some (i*n,n)) ((Array.range (len*n)).map (zv.cells[· % zv.cells.size]!)) (ps.map fun(i,x)=>(i,a.eval x)).toList =some arr':=by
  simp_all
 have hsize:arr'.size=len*n:=by
  have e1:=q2.length
  have e2:cs.length=(Bj z len).length :=by
   clear hzr q1 q1' q2 e1
   have hz': ∀ (l:List (Nat×V)) (b out:List C),Ff (fun i=>some (i*n,n)) b l=some out→out.length=b.length:=by
    intro l
    induction l with
    | nil=>grind [Ff]
    | cons p l ih=>
      grind [Ff]
   grind
  grind [Bj]
 have hcl:cs.length=len*n:=by have:=q2.length;grind
 have hM:maxLen=9223372036854775807:=rfl
 have hlen:len≤maxLen:=by
  have:len*1≤len*n:=Nat.mul_le_mul_left _ h3
  omega
 grind [run_buildSlice']
theorem Gv {P:Program} {F:Fr} {st:St} {a:Act} {w:World} {G:Au} (h:R F st a w G) {d:Nat} {t:TypeId} {len:Nat} {ps:Array (Nat×Operand)} (hs:(AI P st d t len ps.toList).1):
 ∃ r w' G',(Instr.buildSlice t len (ps.map fun(i,x)=>(i,a.eval x))).run P w= .ok r w'∧R F (AI P st d t len ps.toList).2 (a.put (some d) r) w' G':=by
 unfold AI at *
 split at hs
 ·rename_i E n by' hsel
  split at hs
  ·rename_i z hz
   split at hs
   ·rename_i cs hf
    obtain⟨h1,h2,h3,h4⟩:=hs
    obtain⟨arr',q1,q2,hcl,hsize,hlen⟩:=FN h hsel hz hf h1 h2 h3 h4
    exact⟨_,_,_,q1,R.put (d:=some d) (h.row (d::st.pre) E n len len cs arr' arr'.toList q2 (by grind) hcl hsize (Nat.le_refl _) hlen (Aj cs) id) (S3 rfl)⟩
   grind
  grind
 grind
theorem KB {P:Program} {F:Fr} {st:St} {a:Act} {w:World} {G:Au} (h:R F st a w G) {o:Oper} (hs:(ef P st o).1):pY P F o a w (ef P st o).2:=by
 obtain⟨dst,op,ty,pos,aft,gd⟩:=o
 cases op<;>cases dst<;>simp only [ef]at hs ⊢ <;>try (exact hs.elim)
 case store.none T x y=>
  obtain⟨w',h1,h2⟩:=KA h (h.arg rfl hs.1) (Vc (Vd (h.arg rfl hs.2.1))) hs.2.2
  exact⟨.skip,w',G,by simp [execOp,h1], .inr ⟨rfl,h2⟩⟩
 case store.some T x y d=>
  obtain⟨w',h1,h2⟩:=KA h (h.arg rfl hs.1) (Vc (Vd (h.arg rfl hs.2.1))) hs.2.2
  exact⟨.skip,w',G,by simp [execOp,h1], .inr ⟨rfl,(by grind [R.put,Ab])⟩⟩
 case alloc.some T d=>
  split at hs
  ·rename_i cs hz
   obtain⟨i,z,hi,hzv,hc⟩:=Js hz
   have hb:=h.box (d::st.pre) T cs z.cells (Gt hc) false (fun q=>by cases q)
   refine⟨.value (.pointer (some ⟨w.heap.size,0,none⟩)),_,_,?_, .inl ⟨_,rfl,R.put (d:=some d) hb (by simp [Ab,Ac,Bo])⟩⟩
   simp_all [execOp,Instr.alloc,run_zeroValue',newVar,newRow]
  grind
 case box.some T x d=>
  split at hs
  ·rename_i cs hc
   have hv:=FL (h.arg rfl hs.1) hc
   have hb:=h.box (d::st.pre) T cs (a.eval x).cells hv false (fun q=>by cases q)
   refine⟨.value (.pointer (some ⟨w.heap.size,0,none⟩)),_,_,?_, .inl ⟨_,rfl,R.put (d:=some d) hb (by simp [Ab,Ac,Bo])⟩⟩
   simp [execOp,Instr.box,newVar,newRow]
  grind
 case assign.some x d=>
  split at hs
  all_goals first
   | (rename_i q;cases q;done)
   | (rename_i q
      cases q
      split at hs
      ·rename_i E n hE
       have hb:=h.nilRow (d::st.pre) E n
       exact⟨.value (.slice none 0 0),w,_,by simp [execOp,Act.eval], .inl ⟨_,rfl,R.put (d:=some d) hb (S3 rfl)⟩⟩
      grind)
   | grind
 case buildSlice.some t len ps d=>
  obtain⟨r,w',G',q1,q2⟩:=Gv (d:=d) h hs
  exact⟨.value r,w',G',by simp [execOp,q1], .inl ⟨r,rfl,q2⟩⟩
 case makeSlice.some t l c d=>
  obtain⟨r,w',G',q1,q2⟩:=MK (d:=d) h (h.arg rfl hs.1) (h.arg rfl hs.2.1) hs.2.2
  exact⟨.value r,w',G',by simp [execOp,q1], .inl ⟨r,rfl,q2⟩⟩
 case call.some c d=>
  split at hs
  ·rename_i s x t t' h1 h2 h3
   obtain⟨q1,q2,q3,q4⟩:=hs
   subst q3
   have ea:c.args= #[s,x]:=by grind
   have et:c.argTypes= #[t,t]:=by grind
   obtain⟨r,w',G',k1,k2⟩:=QI (d:=d) (ty:=ty) h (h.arg rfl q1) (h.arg rfl q2) q4
   exact⟨.value r,w',G',by simp_all [execOp,resolve,invoke,builtin], .inl ⟨r,rfl,k2⟩⟩
  ·rename_i s x t t' h1 h2 h3
   obtain⟨q1,q2,_,q4⟩:=hs
   have ea:c.args= #[s,x]:=by grind
   have et:c.argTypes= #[t,t']:=by grind
   obtain⟨r,w',G',k1,k2⟩:=Vf (d:=d) (t':=t') (ty:=ty) h (h.arg rfl q1) (h.arg rfl q2) q4
   exact⟨.value r,w',G',by simp_all [execOp,resolve,invoke,builtin], .inl ⟨r,rfl,k2⟩⟩
  grind
end Go.PL
namespace Go.PL
open Go Go.RowKit
def ent (P:Program) (f:FuncId):Bool:=
 match P.funcs[f]? with
 | some fn=> !(fn.name== "runtime.NumGoroutine")&&fn.body.isSome
 | none=>false
structure Bp (P:Program) (I:World→Prop) (f:FuncId) (args:List V) (Q:V→Prop):Prop where
 ent:ent P f=true
 run: ∀ (w:World) (vs:Array Value) (av:Nat→Prop),I w→(∀ b,av b→b<w.heap.size)→An w (im av) args vs.toList→
  Calls P f vs w (fun e w'=> ∃ v r,e= .returned v∧Q r∧r.pure=true∧Ab w' (im av) r v∧Below w.heap.size w w')
theorem run_callFunc' {P:Program} {f:FuncId} (h:ent P f=true) (args:Array Value) (w:World):(callFunc f args).run P w= .ok (.enter f args) w:=by
 unfold ent at h
 split at h
 ·rename_i fn hf
  simp only [Bool.and_eq_true,Bool.not_eq_true']at h
  have h2: ¬fn.body=none:=by
   grind
  simp_all [callFunc]
 ·cases h
mutual
def V.flat:V→Bool
 | .c x=>x.flat
 | .agg cs=>cs.all C.flat
 | .tup vs=>GH vs
 | _=>false
def GH:List V→Bool
 | []=>true
 | v::vs=>v.flat&&GH vs
end
mutual
def Vg:V→Value
 | .c x=>EK x
 | .agg cs=> .agg (cs.map EK).toArray
 | .tup vs=> .tuple (Vh vs).toArray
 | _=>Go.undef
def Vh:List V→List Value
 | []=>[]
 | v::vs=>Vg v::Vh vs
end
theorem LP {w:World} {G:Au}: ∀ {cs:List C} {vs:List Value},cs.all C.flat=true→(Ag w G cs vs↔vs=cs.map EK)
 | [],[],_=>by simp [Ag]
 | [],_::_,_=>by simp [Ag]
 | _::_,[],_=>by simp [Ag]
 | c::cs,v::vs,h=>by
   simp only [List.all_cons,Bool.and_eq_true]at h
   simp only [Ag,List.map_cons,List.cons.injEq,Ay h.1,LP h.2]
mutual
theorem DD {w:World} {G:Au}: ∀ {x:V} {v:Value},x.flat=true→(Ab w G x v↔v=Vg x)
 | .c x,v,h=>by grind [Ab,Vg,Ay,V.flat]
 | .agg cs,v,h=>by
   simp only [Ab,Vg]
   constructor
   ·rintro⟨arr,rfl,hr⟩
    rw [LP (by simpa only [V.flat] using h)]at hr
    rw [←hr]
   grind [LP,V.flat]
 | .tup vs,v,h=>by
   simp only [Ab,Vg]
   constructor
   ·rintro⟨arr,rfl,hr⟩
    rw [Hy (by simpa only [V.flat] using h)]at hr
    rw [←hr]
   ·intro e
    exact⟨_,e,by rw [Hy (by simpa only [V.flat] using h)]⟩
 | .g _ _,_,h=>by simp [V.flat]at h
 | .undef,_,h=>by simp [V.flat]at h
theorem Hy {w:World} {G:Au}: ∀ {xs:List V} {vs:List Value},GH xs=true→(An w G xs vs↔vs=Vh xs)
 | [],vs,_=>by simp only [An,Vh]
 | x::xs,vs,h=>by
   simp only [GH,Bool.and_eq_true]at h
   simp only [An,Vh]
   constructor
   ·rintro⟨v,r,rfl,h1,h2⟩
    rw [(DD h.1).1 h1,(Hy h.2).1 h2]
   ·intro e
    exact⟨_,_,e,(DD h.1).2 rfl,(Hy h.2).2 rfl⟩
end
def Gw (st:St):C→C
 | .osl id=>match st.look id with
   | some e=>match e.row with
     | some (_,_,len)=>if e.pu then .sl len e.cs else .any
     | none=> .any
   | none=> .any
 | .nils => .sl 0 []
 | c=>c
def A1 (st:St):V→V
 | .c x=> .c (Gw st x)
 | .agg cs=> .agg (cs.map (Gw st))
 | v=>v
def KG:C→List Ae
 | .osl id=>[id]
 | _=>[]
def cg:V→List Ae
 | .c x=>KG x
 | .agg cs=>cs.flatMap KG
 | _=>[]
theorem Ry {F:Fr} {st:St} {a:Act} {w:World} {G:Au} (h:R F st a w G) {av:Nat→Prop} (hav: ∀ b,b<w.heap.size→av b→G.wr b) {c:C} {v:Value} (hid: ∀ id∈KG c,st.okFrz id=true→ ∀ b,G.blk id=some b→ ¬av b)
 (hp:(Gw st c).pure =true) (hr:Ac w G c v):Ac w (im av) (Gw st c) v:=by
 cases c with
 | osl id=>
   simp only [Gw]at hp ⊢
   split at hp
   ·rename_i e he
    split at hp
    ·rename_i E n len hrow
     split
     rotate_left
     ·grind [Ac]
     rename_i hpu
     have hpl:Aj e.cs=true:=h.pures e (AK he).1 hpu
     have hok:st.okFrz id=true:=by grind [St.okFrz]
     have hf:=(h.frz he hrow hpl).own v (by grind [Ac])
     simp only [Ac]at hf ⊢
     obtain⟨hpp,ad,cap,q1,q2,q3,q4,q5⟩:=hf
     refine⟨hpp,ad,cap,q1,q2,q3,q4,?_⟩
     rcases q5 with q5 | ⟨b,o,rfl,k1,k2,k3⟩
     ·grind
     ·by_cases hz:len=0
      ·grind
      refine .inr ⟨b,o,rfl,?_,k2,?_⟩
      ·have hb:G.blk id=some b:=by
        obtain⟨hm,hid'⟩:=AK he
        have hE:=h.store e hm
        grind [AJ,Ac]
       exact hid id (by simp [KG]) hok b hb
      ·exact Ai.mono (G:=Bo F G id none none) (G':=im av) ⟨Nat.le_refl _,fun _ _ _=>rfl,fun b' hb' hw=>by
        have:=hav b' hb' hw
        rw [h.wr]at this
        simp only [Bo]
        rcases this with q | ⟨i,q⟩
        ·exact .inl q
        ·by_cases hi:i=id
         ·subst hi;exact absurd hw (hid i (by simp [KG]) hok b' q)
         grind,fun _ _ _ _=>Bt.same rfl⟩ _ _ _ (fun i hi=>by have:Bd i e.cs=true:=hi;rw [AE i e.cs hpl]at this;cases this) (fun _=>rfl) k3
    grind [Ac]
   grind [Ac]
 | nils=>
   simp only [Ac]at hr
   subst hr
   simp only [Gw,Ac]
   exact⟨rfl,none,0,rfl,Nat.le_refl _,Nat.zero_le _,fun _=>trivial, .inl trivial⟩
 | _=>
   first
    | exact Ac.mono (G:=G) (G':=im av) ⟨Nat.le_refl _,fun _ _ _=>rfl,fun b hb hw=>hav b hb hw,fun _ _ _ _=>Bt.same rfl⟩ _ _ (fun i hi=>absurd (show (Gw st _).men i=true from hi) (by rw [GT i _ hp];simp)) hr
theorem Rz {F:Fr} {st:St} {a:Act} {w:World} {G:Au} (h:R F st a w G) {av:Nat→Prop} (hav: ∀ b,b<w.heap.size→av b→G.wr b): ∀ {cs:List C} {vs:List Value},(∀ id∈cs.flatMap KG,st.okFrz id=true→ ∀ b,G.blk id=some b→ ¬av b)→
 Aj (cs.map (Gw st))=true→Ag w G cs vs→Ag w (im av) (cs.map (Gw st)) vs
 | [],[],_,_,_=>by simp [Ag]
 | [],_::_,_,_,h=>by simp [Ag]at h
 | _::_,[],_,_,h=>by simp [Ag]at h
 | c::cs,v::vs,hid,hp,hr=>by
   simp only [Ag]at hr
   simp only [List.map_cons,Aj,Bool.and_eq_true]at hp
   simp only [List.map_cons,Ag]
   exact⟨Ry h hav (fun id hi=>hid id (by simp [hi])) hp.1 hr.1,Rz h hav (fun id hi=>hid id (by simp only [List.flatMap_cons,List.mem_append];exact .inr hi)) hp.2 hr.2⟩
theorem RA {F:Fr} {st:St} {a:Act} {w:World} {G:Au} (h:R F st a w G) {av:Nat→Prop} (hav: ∀ b,b<w.heap.size→av b→G.wr b) {x:V} {v:Value} (hid: ∀ id∈cg x,st.okFrz id=true→ ∀ b,G.blk id=some b→ ¬av b)
 (hp:(A1 st x).pure =true) (hr:Ab w G x v):Ab w (im av) (A1 st x) v:=by
 cases x with
 | c x=>simp only [A1,Ab]at hr ⊢;exact Ry h hav hid (by grind [A1,V.pure]) hr
 | agg cs=>
   simp only [A1,Ab]at hr ⊢
   obtain⟨arr,e,hr⟩:=hr
   exact⟨arr,e,Rz h hav hid (by grind [A1,V.pure]) hr⟩
 | tup vs=>exact YJ hav hp hr
 | g b v'=>exact YJ hav hp hr
 | undef=>simp only [A1,Ab]
def B0 (xs:List V):List Ae:=xs.flatMap cg
theorem En {F:Fr} {st:St} {a:Act} {w:World} {G:Au} (h:R F st a w G) {av:Nat→Prop} (hav: ∀ b,b<w.heap.size→av b→G.wr b): ∀ {xs:List V} {vs:List Value},(∀ id∈B0 xs,st.okFrz id=true→ ∀ b,G.blk id=some b→ ¬av b)→
 Bv (xs.map (A1 st))=true→An w G xs vs→An w (im av) (xs.map (A1 st)) vs
 | [],_,_,_,h=>by simpa [An] using h
 | x::xs,vs,hid,hp,hr=>by
   simp only [An]at hr
   obtain⟨v,r,rfl,h1,h2⟩:=hr
   simp only [List.map_cons,Bv,Bool.and_eq_true]at hp
   simp only [List.map_cons,An]
   exact⟨v,r,rfl,(by grind [RA,B0]),
    En h hav (fun id hi=>hid id (by simp only [B0,List.flatMap_cons,List.mem_append];exact .inr hi)) hp.2 h2⟩
def St.after (st:St) (ids:List Ae) (d:Option Nat) (r:V):St:=
 if r.flat then st.put d r else match ids with
  | []=>st.put d r
  | id::_=>(st.freeze id).put d r
theorem B7 {B:Nat} {w w':World} (h:Below B w w'):Dc w w':=⟨h.os,h.tape,h.output⟩
theorem Ce {w w':World} (h:Below w.heap.size w w'):BY w w':=⟨h.size,fun b hb=>h.block b hb⟩
theorem R.avlt' {F:Fr} {st:St} {a:Act} {w:World} {G:Au} (h:R F st a w G) {b:Nat} (hb:G.wr b):b<w.heap.size:=by
 rw [h.wr]at hb
 rcases hb with q | ⟨i,q⟩
 ·exact Nat.lt_of_lt_of_le (h.avlt b q) h.hsize
 ·exact h.lt i b q
theorem R.called {F:Fr} {st:St} {a:Act} {w:World} {G:Au} (h:R F st a w G) {P:Program} {f:FuncId} {xs:List V} {us:Array Value} {Q:V→Prop} (hc:Bp P F.I f (xs.map (A1 st)) Q)
 (hp:Bv (xs.map (A1 st))=true) (hx:An w G xs us.toList) (d:Option Nat) (hfl: ∀ r,Q r→(r.flat=true∨(B0 xs).length ≤1∧ ∀ id∈B0 xs,st.okFrz id=true)):
 Calls P f us w (fun e w'=> ∃ v r G',e= .returned v∧Q r∧R F (st.after (B0 xs) d r) (a.put d v) w' G'):=by
 have hI:F.I w:=h.inv w h.hsize h.ext
 by_cases hne:B0 xs=[]
 ·have h1:=En h (av:=fun b=>G.wr b) (fun _ _ q=>q) (by grind) hp hx
  refine(hc.run w us (fun b=>G.wr b) hI (fun b hb=>h.avlt' hb) h1).mono fun e w' ⟨v,r,he,hq,hpr,hr,hb⟩=>?_
  refine⟨v,r,G,he,hq,?_⟩
  have h2:=(h.same (B7 hb) (Ce hb)).put (d:=d) (Oo (G:=G) (fun _ _ q=>q) hpr hr)
  grind [St.after]
 ·
  have hav: ∀ b,b<w.heap.size→(G.wr b∧ ∀ id∈B0 xs,G.blk id ≠ some b)→G.wr b:=fun _ _ q=>q.1
  have h1:=En h (av:=fun b=>G.wr b∧ ∀ id∈B0 xs,G.blk id ≠ some b) hav (fun id hi _ b hb hw=>hw.2 id hi hb) hp hx
  refine(hc.run w us _ hI (fun b hb=>h.avlt' hb.1) h1).mono fun e w' ⟨v,r,he,hq,hpr,hr,hb⟩=>?_
  by_cases hf:r.flat=true
  ·refine⟨v,r,G,he,hq,?_⟩
   have h2:=(h.same (B7 hb) (Ce hb)).put (d:=d) ((DD (w:=w') (G:=G) hf).2 ((DD hf).1 hr))
   simp_all [St.after]
  ·rcases hfl r hq with q | ⟨q1,q2⟩
   ·grind
   ·obtain⟨id,hid⟩: ∃ id,B0 xs=[id]:=by
     match hh:B0 xs,q1,hne with
     | [],_,hne=>grind
     | [id],_,_=>grind
    obtain⟨G',g1,g2,g3⟩:=h.freeze id
    refine⟨v,r,G',he,hq,?_⟩
    have g4:=g1.same (B7 hb) (Ce hb)
    have hr':Ab w' G' r v:=(by grind [Oo])
    unfold St.after
    rw [if_neg hf,hid]
    exact g4.put hr'
end Go.PL
namespace Go.PL
open Go Go.RowKit
def mz:C→C→Bool
 | .int _ a, .int _ b=>a==b
 | .bool a, .bool b=>a==b
 | .str a, .str b=>a==b
 | _,_=>false
def Co:List C→List C→Bool
 | [],[]=>true
 | c::cs,d::ds=>mz c d&&Co cs ds
 | _,_=>false
theorem Ic: ∀ {a b c d:List C},a.length=b.length→Co (a++c) (b++d)=(Co a b&&Co c d)
 | [],[],c,d,_=>by simp [Co]
 | x::a,y::b,c,d,h=>by simp only [List.cons_append,Co,Ic (a:=a) (b:=b) (by simpa using h),Bool.and_assoc]
 | [],_::_,_,_,h=>by simp at h
 | _::_,[],_,_,h=>by simp at h
def ZY (P:Program) (R:TypeId→List C→Bool) (cs:List C):Nat→List Field→Bool
 | o,[]=>o==cs.length
 | o,f::fs=>f.name != "_" &&f.offset==o&&(match Fd P f.type with
   | some (ag,n)=>(ag||n==1)&&Nat.ble (o+n) cs.length&&R f.type ((cs.drop o).take n)&&ZY P R cs (o+n) fs
   | none=>false)
def NG (P:Program):Nat→TypeId→List C→Bool
 | 0,_,_=>false
 | n+1,t,cs=>match P.underlying t with
   | some .bool =>match cs with
     | [.bool _]=>true
     | _=>false
   | some (.int k)=>match cs with
     | [.int k' _]=>k==k'
     | _=>false
   | some .string =>match cs with
     | [.str _]=>true
     | _=>false
   | some (.struct fs)=> !P.stoodInHeld t&&ZY P (NG P n) cs 0 fs.toList
   | some (.array m e)=>match Fd P e with
     | some (ag,k)=>(ag||k==1)&&cs.length==m*k&&(List.range m).all fun i=>NG P n e ((cs.drop (i*k)).take k)
     | none=>false
   | _=>false
def Xe (P:Program) (t:TypeId):Bool:=match P.underlying t with
 | some d=>d.isRow
 | none=>false
def fS (ag:Bool) (cs:List C):V:=if ag then .agg cs else .c (cs.getD 0 .any)
theorem NO {ag:Bool} {o n:Nat} {cs:List C} (h0:ag=true∨n=1) (hn:o+n≤cs.length):toV ag o n cs=fS ag ((cs.drop o).take n):=by
 unfold toV fS
 grind
section
variable {P:Program} {w:World} {G:Au}
def jQ (P:Program) (w:World) (G:Au) (d n:Nat) (t:TypeId):Prop:=
 ∀ (cs ds:List C) (x y:Value),NG P n t cs=true→NG P n t ds=true→Ab w G (fS (Xe P t) cs) x→Ab w G (fS (Xe P t) ds) y→ ∀ w',(Op.equalIn d t x y).run P w'= .ok (Co cs ds) w'
theorem NP {t:TypeId} {ag:Bool} {n:Nat} (h:Fd P t=some (ag,n)):Xe P t=ag:=by
 grind [Br,Xe]
theorem ML {d n:Nat} (ih: ∀ t,jQ P w G d n t) {cs ds:List C} {xs ys:Array Value} (hx:Ag w G cs xs.toList) (hy:Ag w G ds ys.toList): ∀ (fs:List Field) (o:Nat),ZY P (NG P n) cs o fs=true→ZY P (NG P n) ds o fs=true→
 ∀ w',(Op.eqFields d xs ys fs).run P w'= .ok (Co (cs.drop o) (ds.drop o)) w'
 | [],o,h1,h2,w'=>by
   simp only [ZY,beq_iff_eq]at h1 h2
   have e1:cs.drop o=[]:=by grind
   have e2:ds.drop o=[]:=by grind
   rw [e1,e2]
   simp [Op.eqFields,Co]
 | f::fs,o,h1,h2,w'=>by
   simp only [ZY,Bool.and_eq_true,bne_iff_ne,ne_eq,beq_iff_eq]at h1 h2
   obtain⟨⟨hn,ho⟩,h1⟩:=h1
   obtain⟨_,h2⟩:=h2
   cases ht:Fd P f.type with
   | none=>grind
   | some p=>
     obtain⟨ag,k⟩:=p
     rw [ht]at h1 h2
     simp only [Bool.and_eq_true,Bool.or_eq_true,beq_iff_eq,Nat.ble_eq]at h1 h2
     obtain⟨⟨⟨h0,l1⟩,r1⟩,q1⟩:=h1
     obtain⟨⟨⟨_,l2⟩,r2⟩,q2⟩:=h2
     obtain⟨a,ra,pa⟩:=run_part' ht hx l1 (by grind)
     obtain⟨b,rb,pb⟩:=run_part' ht hy l2 (by grind)
     rw [NO h0 l1, ←NP ht]at ra
     rw [NO h0 l2, ←NP ht]at rb
     have he:=ih f.type _ _ a b r1 r2 ra rb w'
     have hrest:=ML ih hx hy fs (o+k) q1 q2 w'
     have split1:cs.drop o=(cs.drop o).take k++cs.drop (o+k):=by rw [←List.drop_drop,List.take_append_drop]
     have split2:ds.drop o=(ds.drop o).take k++ds.drop (o+k):=by rw [←List.drop_drop,List.take_append_drop]
     rw [split1,split2,Ic (by simp;omega)]
     simp only [Op.eqFields,hn,ne_eq,not_false_eq_true,if_true,Sem.run_bind,ho,pa,pb,he,Result.andThen_ok]
     cases Co ((cs.drop o).take k) ((ds.drop o).take k)
     ·simp
     grind
theorem Ou {d n:Nat} {e:TypeId} (ih:jQ P w G d n e) {cs ds:List C} {xs ys:Array Value} {ag:Bool} {k:Nat} (ht:Fd P e=some (ag,k)) (h0:ag=true∨k=1) (hx:Ag w G cs xs.toList) (hy:Ag w G ds ys.toList): ∀ (m o:Nat),cs.length=(o+m)*k→ds.length=(o+m)*k→
 (∀ i,i<o+m→NG P n e ((cs.drop (i*k)).take k)=true)→(∀ i,i<o+m→NG P n e ((ds.drop (i*k)).take k)=true)→
 ∀ w',(Op.eqItems d e k xs ys ((List.range m).map (o+ ·))).run P w'= .ok (Co (cs.drop (o*k)) (ds.drop (o*k))) w'
 | 0,o,l1,l2,_,_,w'=>by
   have e1:cs.drop (o*k)=[]:=by grind
   have e2:ds.drop (o*k)=[]:=by grind
   rw [e1,e2]
   simp [Op.eqItems,Co]
 | m+1,o,l1,l2,a1,a2,w'=>by
   have hk:(o+(m+1))*k=o*k+k+m*k:=by grind
   have b1:o*k+k≤cs.length:=by grind
   have b2:o*k+k≤ds.length:=by grind
   obtain⟨a,ra,pa⟩:=run_part' ht hx b1 (h0.imp id (fun h=>by omega))
   obtain⟨b,rb,pb⟩:=run_part' ht hy b2 (h0.imp id (fun h=>by omega))
   rw [NO h0 b1, ←NP ht]at ra
   rw [NO h0 b2, ←NP ht]at rb
   have he:=ih _ _ a b (a1 o (by omega)) (a2 o (by omega)) ra rb w'
   have hrest:=Ou ih ht h0 hx hy m (o+1) (by grind) (by grind) (by grind) (by grind) w'
   have hl:(List.range (m+1)).map (o+ ·)=o::(List.range m).map (o+1+ ·):=by
    rw [List.range_succ_eq_map,List.map_cons,List.map_map]
    simp only [Nat.add_zero,List.cons.injEq,true_and]
    apply List.map_congr_left
    grind
   have e1:(o+1)*k=o*k+k:=by grind
   rw [e1]at hrest
   have split1:cs.drop (o*k)=(cs.drop (o*k)).take k++cs.drop (o*k+k):=by rw [←List.drop_drop,List.take_append_drop]
   have split2:ds.drop (o*k)=(ds.drop (o*k)).take k++ds.drop (o*k+k):=by rw [←List.drop_drop,List.take_append_drop]
   rw [split1,split2,Ic (by simp;omega),hl]
   simp only [Op.eqItems,Sem.run_bind,pa,pb,he,Result.andThen_ok]
   cases Co ((cs.drop (o*k)).take k) ((ds.drop (o*k)).take k)
   ·simp
   grind
theorem S4: ∀ (n d:Nat) (t:TypeId),jQ P w G (d+n) n t
 | 0,_,_,_,_,_,_,h,_,_,_,_=>by simp [NG]at h
 | n+1,d,t,cs,ds,x,y,h1,h2,hx,hy,w'=>by
   unfold NG at h1 h2
   cases hu:P.underlying t with
   | none=>grind
   | some kd=>
     rw [hu]at h1 h2
     have hr:Xe P t=kd.isRow:=by unfold Xe;rw [hu]
     rw [hr]at hx hy
     cases kd<;>simp only at h1 h2<;>try (cases h1;done)
     case bool=>
      split at h1<;>try (cases h1;done)
      split at h2<;>try (cases h2;done)
      simp only [fS,Ab,Ac,List.getD_cons_zero,TypeDesc.isRow,Bool.false_eq_true,if_false]at hx hy
      subst hx hy
      rw [show d+(n+1)=(d+n)+1 from rfl,run_equalIn_bool' w' (d+n) t _ _ hu]
      simp [Co,mz]
     case int k=>
      split at h1<;>try (cases h1;done)
      split at h2<;>try (cases h2;done)
      simp only [beq_iff_eq]at h1 h2
      subst h1
      simp only [fS,Ab,Ac,List.getD_cons_zero,TypeDesc.isRow,Bool.false_eq_true,if_false]at hx hy
      subst hx hy h2
      rw [show d+(n+1)=(d+n)+1 from rfl,run_equalIn_int w' (d+n) t _ _ _ _ hu]
      simp [Co,mz]
     case string=>
      split at h1<;>try (cases h1;done)
      split at h2<;>try (cases h2;done)
      simp only [fS,Ab,Ac,List.getD_cons_zero,TypeDesc.isRow,Bool.false_eq_true,if_false]at hx hy
      subst hx hy
      rw [show d+(n+1)=(d+n)+1 from rfl,run_equalIn_string w' (d+n) t _ _ hu]
      simp [Co,mz,ByteArray.toList_eq]
     case struct fs=>
      simp only [Bool.and_eq_true,Bool.not_eq_true']at h1 h2
      simp only [fS,TypeDesc.isRow,if_true,Ab]at hx hy
      obtain⟨xs,rfl,hx⟩:=hx
      obtain⟨ys,rfl,hy⟩:=hy
      have hfs:P.fieldsOf t=fs:=by simp [Program.fieldsOf,hu]
      rw [show d+(n+1)=(d+n)+1 from rfl,run_equalIn_struct w' (d+n) t xs ys (by rw [hfs];exact hu) h1.1,hfs]
      have:=ML (fun t=>S4 n d t) hx hy fs.toList 0 h1.2 h2.2 w'
      grind
     case array m e=>
      cases ht:Fd P e with
      | none=>grind
      | some p=>
        obtain⟨ag,k⟩:=p
        rw [ht]at h1 h2
        simp only [Bool.and_eq_true,Bool.or_eq_true,beq_iff_eq,List.all_eq_true,List.mem_range]at h1 h2
        simp only [fS,TypeDesc.isRow,if_true,Ab]at hx hy
        obtain⟨xs,rfl,hx⟩:=hx
        obtain⟨ys,rfl,hy⟩:=hy
        obtain⟨dd,i,_,_,hi,hsz⟩:=Br ht
        have hc:P.cellsOf e=k:=by grind [Program.cellsOf]
        rw [show d+(n+1)=(d+n)+1 from rfl,run_equalIn_array w' (d+n) xs ys hu hi]
        have:=Ou (S4 n d e) ht h1.1.1 hx hy m 0 (by grind) (by grind) (by grind) (by grind) w'
        simp_all
def Vi (P:Program) (t:TypeId) (cs ds:List C):Bool:= !P.eqGuardType P.depth t&&Xe P t&&NG P 40 t cs&&NG P 40 t ds
def QJ (P:Program) (op:BinOp) (t:TypeId) (cs ds:List C):Prop×V:=
 match op with
 | .eql =>(Vi P t cs ds=true, .c (.bool (Co cs ds)))
 | .neq =>(Vi P t cs ds=true, .c (.bool !(Co cs ds)))
 | _=>no
theorem Jt {op:BinOp} {t:TypeId} {cs ds:List C} {u v:Value} {ox oy:Operand} (hx:Ab w G (.agg cs) u) (hy:Ab w G (.agg ds) v) (hs:(QJ P op t cs ds).1):
 ∃ r,Ab w G (QJ P op t cs ds).2 r∧ ∀ w',(do eqGuard op t ox oy u v;binOp op t u v).run P w'= .ok r w':=by
 have key:Vi P t cs ds=true→ ∃ xs ys,u= .agg xs∧v= .agg ys∧(∀ w',(eqGuard op t ox oy u v).run P w'= .ok () w')∧ ∀ w',(Op.equalIn 10000 t u v).run P w'= .ok (Co cs ds) w':=by
  intro h
  simp only [Vi,Bool.and_eq_true,Bool.not_eq_true']at h
  have hx':=hx
  have hy':=hy
  simp only [Ab]at hx' hy'
  obtain⟨xs,rfl,_⟩:=hx'
  obtain⟨ys,rfl,_⟩:=hy'
  refine⟨xs,ys,rfl,rfl,(by grind [run_eqGuard_agg]),fun w'=>?_⟩
  exact S4 (P:=P) (w:=w) (G:=G) 40 9960 t cs ds _ _ h.1.2 h.2 (by rw [h.1.1.2];exact hx) (by rw [h.1.1.2];exact hy) w'
 unfold QJ at *
 split at hs
 ·obtain⟨xs,ys,rfl,rfl,h1,h2⟩:=key hs
  exact⟨_,(Ay rfl).2 rfl,fun w'=>by simp only [Sem.run_bind,h1,Result.andThen_ok,run_eql_struct,h2];rfl⟩
 ·obtain⟨xs,ys,rfl,rfl,h1,h2⟩:=key hs
  exact⟨_,(Ay rfl).2 rfl,fun w'=>by simp only [Sem.run_bind,h1,Result.andThen_ok,run_neq_struct,h2];rfl⟩
 grind
end
def ZZ:List C→Bool
 | []=>true
 | .int _ _::cs=>ZZ cs
 | .bool _::cs=>ZZ cs
 | .str _::cs=>ZZ cs
 | _::_=>false
theorem RB: ∀ {cs:List C},ZZ cs=true→Co cs cs=true
 | [],_=>rfl
 | c::cs,h=>by
   cases c<;>simp only [ZZ]at h<;>first | (cases h;done) | simp_all [Co,mz,RB]
def kinds:List C→List (Option IntKind)
 | []=>[]
 | .int k _::cs=>some k::kinds cs
 | _::cs=>none::kinds cs
theorem NQ: ∀ {cs ds:List C},kinds cs=kinds ds→Co cs ds=true→cs=ds
 | [],[],_,_=>rfl
 | [],_::_,_,h=>by simp [Co]at h
 | _::_,[],_,h=>by simp [Co]at h
 | c::cs,d::ds,hk,h=>by
   simp only [Co,Bool.and_eq_true]at h
   cases c<;>cases d<;>simp only [mz,Bool.false_eq_true,false_and]at h
   ·simp only [kinds,List.cons.injEq,Option.some.injEq]at hk
    rw [beq_iff_eq.1 h.1,hk.1,NQ hk.2 h.2]
   ·simp only [kinds,List.cons.injEq,true_and]at hk
    rw [beq_iff_eq.1 h.1,NQ hk h.2]
   ·simp only [kinds,List.cons.injEq,true_and]at hk
    rw [beq_iff_eq.1 h.1,NQ hk h.2]
theorem ci {α:Type} [DecidableEq α] (enc:α→List C) (bZ:List C→α) (hd: ∀ a,bZ (enc a)=a) (hs: ∀ a,ZZ (enc a)=true) (hk: ∀ a b,kinds (enc a)=kinds (enc b)) (a b:α):Co (enc a) (enc b)=(a==b):=by
 grind [RB,NQ]
def Ju:C→Int
 | .int _ n=>n
 | _=>0
def mQ:C→Bool
 | .bool b=>b
 | _=>false
def oF:C→List UInt8
 | .str s=>s
 | _=>[]
structure Bk (st st':St):Prop where
 len:st'.tm.length=st.tm.length
 tm: ∀ i,st'.tm.getD i .undef = .undef ∨st'.tm.getD i .undef =st.tm.getD i .undef
 so: ∀ e∈st'.so,e∈st.so
 nd:(st.so.map (·.id)).Nodup →(st'.so.map (·.id)).Nodup
 gh:st'.gh.length=st.gh.length∧ ∀ i,st'.gh.getD i .undef = .undef ∨st'.gh.getD i .undef =st.gh.getD i .undef
 pre:st'.pre=st.pre
theorem Bk.refl (st:St):Bk st st:=⟨rfl,fun _=> .inr rfl,fun _ h=>h,id,(by grind),rfl⟩
theorem Ov {w:World} {G:Au}: ∀ {xs ys:List V} {vs:List Value},ys.length=xs.length→(∀ i,ys.getD i .undef = .undef ∨ys.getD i .undef =xs.getD i .undef)→An w G xs vs→An w G ys vs
 | [],[],_,_,_,h=>h
 | x::xs,y::ys,vs,hl,hi,h=>by
   simp only [An]at h ⊢
   obtain⟨v,r,e,h1,h2⟩:=h
   refine⟨v,r,e,?_,Ov (by simpa using hl) (fun i=>by simpa using hi (i+1)) h2⟩
   rcases hi 0 with q | q
   ·simp at q;rw [q];simp only [Ab]
   ·simp at q;rw [q];exact h1
 | [],_::_,_,hl,_,_=>by simp at hl
 | _::_,[],_,hl,_,_=>by simp at hl
theorem R.less {F:Fr} {st:St} {a:Act} {w:World} {G:Au} {st':St} (h:R F st a w G) (hl:Bk st st'):R F st' a w G:={
 dfr:=h.dfr
 size:=by rw [hl.len];exact h.size
 slots:=fun i=>by
  rcases hl.tm i with q | q
  ·rw [q];simp only [Ab]
  ·rw [q];exact h.slots i
 ghosts:=Ov hl.gh.1 hl.gh.2 h.ghosts
 store:=fun e he=>h.store e (hl.so e he)
 deep:=fun e he=>h.deep e (hl.so e he)
 pures:=fun e he=>h.pures e (hl.so e he)
 nodup:=hl.nd h.nodup
 inj:=h.inj,lt:=h.lt,new:=h.new,wr:=h.wr,avlt:=h.avlt,inv:=h.inv,avold:=h.avold,os:=h.os,tape:=h.tape,output:=h.output,hsize:=h.hsize,ext:=h.ext}
end Go.PL
namespace Go.PL
open Go Go.RowKit
def S5:List V→Option (List C)
 | []=>some []
 | .c x::vs=>match S5 vs with
   | some cs=>some (x::cs)
   | none=>none
 | _=>none
def CA (P:Program) (st:St) (g:Bool) (op:Op):Prop×V:=
 match op with
 | .build t ps=>Ib P st g t ps.toList
 | .binOp op t x y t'=>match (st.arg g x).2,(st.arg g y).2 with
   | .agg cs, .agg ds=>((st.arg g x).1∧(st.arg g y).1∧(QJ P op t cs ds).1,(QJ P op t cs ds).2)
   | _,_=>rd P st g (.binOp op t x y t')
 | .makeFunc (.func f) ⟨[]⟩ caps=>match S5 (st.args g caps.toList).2 with
   | some cs=>((st.args g caps.toList).1, .c (.clo f cs))
   | none=>no
 | .makeFunc (.func f) ⟨x::xs⟩ ⟨[]⟩=>match S5 (st.args g (x::xs)).2 with
   | some cs=>((st.args g (x::xs)).1, .c (.bmv f cs))
   | none=>no
 | op=>rd P st g op
theorem Ox {w:World} {G:Au}: ∀ {vs:List V} {cs:List C} {us:List Value},S5 vs=some cs→An w G vs us→Ag w G cs us
 | [],cs,us,h,hr=>by grind [S5,An,Ag]
 | v::vs,cs,us,h,hr=>by
   unfold S5 at h
   split at h
   ·grind
   ·rename_i x vs' he
    injection he with h1 h2;subst h1 h2
    split at h
    ·rename_i cs' hcs
     injection h with h;subst h
     simp only [An,Ab]at hr
     obtain⟨u,r,rfl,h1,h2⟩:=hr
     simp only [Ag]
     exact⟨h1,Ox hcs h2⟩
    ·cases h
   ·cases h
theorem DF {P:Program} {F:Fr} {st:St} {a:Act} {w:World} {G:Au} (h:R F st a w G) {g:Bool} (hg:g=true) {o:Oper} (hs:(CA P st g o.op).1):
 ∃ v,Ab w G (CA P st g o.op).2 v∧ ∀ w',BY w w'→(execOp a.eval o).run P w'= .ok (.value v) w':=by
 unfold CA at *
 split at hs
 ·rename_i t ps ho
  obtain⟨v,q1,q2⟩:=S2 h hg hs
  exact⟨v,q1,(by simp_all [execOp])⟩
 ·rename_i op t x y t' ho
  split at hs
  ·rename_i cs ds e1 e2
   have hx:=h.arg hg hs.1
   have hy:=h.arg hg hs.2.1
   rw [e1]at hx
   rw [e2]at hy
   obtain⟨v,q1,q2⟩:=Jt (P:=P) (op:=op) (t:=t) (ox:=x) (oy:=y) hx hy hs.2.2
   refine⟨v,q1,fun w' hw'=>?_⟩
   have:=q2 w'
   simp only [execOp,ho,Sem.run_bind]at this ⊢
   simp_all
  grind [U6]
 ·rename_i f caps ho
  split at hs
  ·rename_i cs hcs
   have:=Ox hcs (h.args hg hs)
   refine⟨.func (.func f) #[] (caps.map a.eval),⟨_,rfl,by simpa using this⟩,(by simp_all [execOp,Instr.makeFunc])⟩
  grind
 ·rename_i f x xs ho
  split at hs
  ·rename_i cs hcs
   have:=Ox hcs (h.args hg hs)
   refine⟨.func (.func f) ((x::xs).map a.eval).toArray #[],⟨_,rfl,by simpa using this⟩,(by simp_all [execOp,Instr.makeFunc])⟩
  grind
 ·exact U6 h hg hs
inductive Kind where
 | rd | ef | call (f:FuncId) (xs:List Operand) | cut (x:Operand) | no
def A2:Op→Kind
 | .alloc _ | .box _ _ | .buildSlice .. | .makeSlice .. | .store .. => .ef
 | .assign (.const (.slice none 0 0))=> .ef
 | .slice _ x _ _ _=> .cut x
 | .call c=>match c.callee with
   | .builtin .append => .ef
   | .builtin .copy => .ef
   | .builtin _=> .rd
   | .value (.func f)=> .call f c.args.toList
   | _=> .no
 | _=> .rd
def St.cutAt (st:St) (g:Bool) (x:Operand):St:=
 match (st.arg g x).2 with
 | .c (.osl id)=>st.freeze id
 | _=>st
abbrev U2 (F:Fr) (K:St→Prop) (a:Act) (w:World):Prop:= ∃ st' G',K st'∧R F st' a w G'
def Dk (P:Program) (I:World→Prop) (o:Oper) (st:St) (K:St→Prop):Prop:=
 ∀ (F:Fr) (a:Act) (w:World) (G:Au) (Q:Exit→Act→World→Prop),F.I=I→R F st a w G→o.wp P a w (U2 F K) Q
def Z0 (P:Program) (I:World→Prop) (o:Oper) (st:St) (K:St→Prop):Prop:=
 Dk P I o st K∨match A2 o.op with
 | .rd =>(CA P st true o.op).1∧K (st.put o.dst (CA P st true o.op).2)
 | .ef =>(ef P st o).1∧K (ef P st o).2
 | .call f xs=>(st.args true xs).1∧Bv ((st.args true xs).2.map (A1 st))=true∧
  ∃ Q,Bp P I f ((st.args true xs).2.map (A1 st)) Q∧ ∀ r,Q r→(r.flat=true∨(B0 (st.args true xs).2).length ≤1∧ ∀ id∈B0 (st.args true xs).2,st.okFrz id=true)∧K (st.after (B0 (st.args true xs).2) o.dst r)
 | .cut x=>(CA P (st.cutAt true x) true o.op).1∧K ((st.cutAt true x).put o.dst (CA P (st.cutAt true x) true o.op).2)
 | .no =>False
def EG (st:St) (ops:Array Oper) (j:Nat) (want:Bool):Option Bool:=
 match ops[j]? with
 | some p=>match p.dst with
   | some t=>match st.get t with
     | .c (.bool b)=>some (b==want)
     | .g c (.c (.bool b))=>some (c&&(b==want))
     | _=>none
   | none=>none
 | none=>none
def jR (P:Program) (I:World→Prop) (o:Oper) (st:St) (g:Bool) (K:St→Prop):Prop:=
 ((g=true→Z0 P I o st K)∧(g=false→ ∃ x st',Bk (st.put o.dst (.g g x)) st'∧K st'))∨match A2 o.op with
 | .rd => ∃ v,(g=true→(CA P st g o.op).1∧(CA P st g o.op).2=v)∧K (st.put o.dst (.g g v))
 | .call f xs=>(g=true→(st.args g xs).1∧Bv ((st.args g xs).2.map (A1 st))=true)∧
  ∃ r,(r.flat=true∨B0 (st.args g xs).2=[])∧(g=true→Bp P I f ((st.args g xs).2.map (A1 st)) (· =r))∧K (st.put o.dst (.g g r))
 | _=>False
def RC (P:Program) (I:World→Prop) (ops:Array Oper) (o:Oper) (st:St) (K:St→Prop):Prop:=
 match o.guard with
 | none=>Z0 P I o st K
 | some (j,want)=>match EG st ops j want with
   | some g=>jR P I o st g K
   | none=>False
def Dd (P:Program) (I:World→Prop) (ops:Array Oper):List Oper→St→(St→Prop)→Prop
 | [],st,K=>K st
 | o::rest,st,K=>RC P I ops o st (fun st'=>Dd P I ops rest st' K)
def je (P:Program) (I:World→Prop) (o:Oper) (st:St) (K:St→Prop):Prop:=
 match A2 o.op with
 | .rd =>(CA P st true o.op).1∧K (st.put o.dst (CA P st true o.op).2)
 | .cut _=>(CA P st true o.op).1∧K (st.put o.dst (CA P st true o.op).2)
 | .call f xs=>(st.args true xs).1∧Bv ((st.args true xs).2.map (A1 st))=true∧
  ∃ r,r.flat=true∧Bp P I f ((st.args true xs).2.map (A1 st)) (· =r)∧K (st.put o.dst r)
 | _=>False
def jf (P:Program) (I:World→Prop) (o:Oper) (st:St) (g:Bool) (K:St→Prop):Prop:=
 match A2 o.op with
 | .rd => ∃ v,(g=true→(CA P st g o.op).1∧(CA P st g o.op).2=v)∧K (st.put o.dst (.g g v))
 | .cut _=> ∃ v,(g=true→(CA P st g o.op).1∧(CA P st g o.op).2=v)∧K (st.put o.dst (.g g v))
 | .call f xs=>(g=true→(st.args g xs).1∧Bv ((st.args g xs).2.map (A1 st))=true)∧
  ∃ r,r.flat=true∧(g=true→Bp P I f ((st.args g xs).2.map (A1 st)) (· =r))∧K (st.put o.dst (.g g r))
 | _=>False
def fT (P:Program) (I:World→Prop) (ops:Array Oper) (o:Oper) (st:St) (K:St→Prop):Prop:=
 match o.guard with
 | none=>je P I o st K
 | some (j,want)=>match EG st ops j want with
   | some g=>jf P I o st g K
   | none=>False
def MM (P:Program) (I:World→Prop) (ops:Array Oper):List Oper→St→(St→Prop)→Prop
 | [],st,K=>K st
 | o::rest,st,K=>fT P I ops o st (fun st'=>MM P I ops rest st' K)
section
variable {P:Program} {F:Fr} {st:St} {a:Act} {w:World} {G:Au} {ops:Array Oper}
theorem CO {o:Oper} (h:o.guard=none) (y:Nat→Option Bool):Region.wanted o y=true:=by simp [Region.wanted,h]
theorem FO (h:R F st a w G) {o:Oper} {j:Nat} {want g:Bool} (hg:o.guard=some (j,want)) (hq:EG st ops j want=some g):Region.wanted o (yielded ops a.tmps)=g:=by
 unfold EG at hq
 split at hq
 ·rename_i p hp
  split at hq
  ·rename_i t ht
   have hs:=h.slots t
   have hv: ∀ v:Value,v ≠ Go.undef→a.tmps.getD t Go.undef=v→a.tmps[t]? =some v:=by
    intro v hne he
    rw [Array.getD_eq_getD_getElem?]at he
    grind
   split at hq
   ·rename_i b hb
    injection hq with hq;subst hq
    have:st.tm.getD t .undef = .c (.bool b):=hb
    grind [Ab,Ac,Go.undef,Region.wanted,yielded]
   ·rename_i c b hb
    injection hq with hq;subst hq
    have:st.tm.getD t .undef = .g c (.c (.bool b)):=hb
    rw [this]at hs
    simp only [Ab,Ac]at hs
    cases c with
    | true=>
      rw [if_pos rfl]at hs
      grind [Go.undef,Region.wanted,yielded]
    | false=>
      simp only [Bool.false_eq_true,if_false]at hs
      have hn: ∀ x,a.tmps[t]? =some (.bool x)→False:=by
       intro x hx
       simp_all [Go.undef]
      grind [yielded,Region.wanted]
   ·cases hq
  ·cases hq
 ·cases hq
theorem R.cutAt (h:R F st a w G) (g:Bool) (x:Operand): ∃ G',R F (st.cutAt g x) a w G':=by
 unfold St.cutAt
 split
 ·obtain⟨G',q,_⟩:=h.freeze _;exact⟨G',q⟩
 grind
theorem Ap {o:Oper} {v:Value} {w':World} {K:Act→World→Prop} {Q:Exit→Act→World→Prop} (hr:(execOp a.eval o).run P w= .ok (.value v) w') (h:K (a.put o.dst v) w'):o.wp P a w K Q:=by
 grind [Oper.wp,Oper.upon]
theorem IQ (h:R F st a w G) {o:Oper} {K:St→Prop} {Q:Exit→Act→World→Prop} (hs:Z0 P F.I o st K):o.wp P a w (U2 F K) Q:=by
 unfold Z0 at hs
 rcases hs with hs | hs
 ·exact hs F a w G Q rfl h
 split at hs
 ·obtain⟨v,q1,q2⟩:=DF h rfl hs.1
  exact Ap (q2 w (BY.refl w)) ⟨_,G,hs.2,h.put q1⟩
 ·obtain⟨nx,w',G',q1,q2⟩:=(KB h hs.1).out
  unfold Oper.wp Oper.upon
  grind
 ·rename_i f xs hk
  obtain⟨h1,h2,Q',hc,hq⟩:=hs
  have hr:(execOp a.eval o).run P w= .ok (.enter f (xs.map a.eval).toArray) w:=by
   unfold A2 at hk
   split at hk<;>try (cases hk;done)
   rename_i c ho
   split at hk<;>try (cases hk;done)
   rename_i f' hcal
   injection hk with hk1 hk2
   subst hk1 hk2
   simp [execOp,ho,resolve,hcal,Act.eval,Deferred.ofValue,invoke,run_callFunc' hc.ent]
   grind
  unfold Oper.wp Oper.upon
  rw [hr]
  refine(h.called (us:=(xs.map a.eval).toArray) hc h2 (by simpa using h.args rfl h1) o.dst (by grind)).mono fun e w' ⟨v,r,G',he,q,hR⟩=>?_
  subst he
  exact⟨_,G',(hq r q).2,hR⟩
 ·rename_i x hk
  obtain⟨G',hR⟩:=h.cutAt true x
  obtain⟨v,q1,q2⟩:=DF hR rfl hs.1
  exact Ap (q2 w (BY.refl w)) ⟨_,G',hs.2,hR.put q1⟩
 grind
theorem Vj (h:R F st a w G) {d:Option Nat} {g:Bool} {x:V} {v:Value} (hg:g=true) (hx:Ab w G x v):R F (st.put d (.g g x)) (a.put d v) w G:=
 h.put (by simp_all [Ab])
theorem S6 (h:R F st a w G) {d:Option Nat} {g:Bool} {x:V} (hg:g=false):R F (st.put d (.g g x)) (a.put d Go.undef) w G:=
 h.put (by simp [Ab,hg])
theorem KH {o:Oper} {f:FuncId} {xs:List Operand} (hk:A2 o.op= .call f xs) (he:ent P f=true) (w:World):(execOp a.eval o).run P w= .ok (.enter f (xs.map a.eval).toArray) w:=by
 unfold A2 at hk
 split at hk<;>try (cases hk;done)
 rename_i c ho
 split at hk<;>try (cases hk;done)
 rename_i f' hcal
 injection hk with hk1 hk2
 subst hk1 hk2
 simp [execOp,ho,resolve,hcal,Act.eval,Deferred.ofValue,invoke,run_callFunc' he]
 grind
theorem Oy (h:R F st a w G) {f:FuncId} {g:Bool} (hg:g=true) {xs:List Operand} (h1:(st.args g xs).1) (h2:Bv ((st.args g xs).2.map (A1 st))=true) {r:V} (hr:r.flat=true)
 (hc:Bp P F.I f ((st.args g xs).2.map (A1 st)) (· =r)) {w':World} (ho:Dc w w') (hs:BY w w'):
 Calls P f (xs.map a.eval).toArray w' (fun e w''=>e= .returned (Vg r)∧Below w'.heap.size w' w''):=by
 have hR:=h.same ho hs
 have hav: ∀ b,b<w'.heap.size→(G.wr b∧ ∀ id∈B0 (st.args g xs).2,G.blk id ≠ some b)→G.wr b:=fun _ _ q=>q.1
 have h3:=En hR (av:=fun b=>G.wr b∧ ∀ id∈B0 (st.args g xs).2,G.blk id ≠ some b) hav (by grind) h2 (by simpa using hR.args hg h1)
 refine(hc.run w' _ (fun b=>G.wr b∧ ∀ id∈B0 (st.args g xs).2,G.blk id ≠ some b) (hR.inv w' hR.hsize hR.ext) (fun b hb=>hR.avlt' hb.1) (by grind)).mono fun e w'' ⟨v,r',he,hq,_,hv,hb⟩=>?_
 grind [DD]
theorem RE (h:R F st a w G) {o:Oper} {g:Bool} {K:St→Prop} {Q:Exit→Act→World→Prop} (hs:jR P F.I o st g K):
 if g=true then o.wp P a w (U2 F K) Q else U2 F K (a.put o.dst Go.undef) w:=by
 unfold jR at hs
 rcases hs with hs | hs
 ·split
  ·grind [IQ]
  ·rename_i hg
   have hg':g=false:=by grind
   obtain⟨x,st',h1,h2⟩:=hs.2 hg'
   exact⟨st',G,h2,(S6 h hg').less h1⟩
 split at hs
 ·obtain⟨x,hx,hs⟩:=hs
  split
  ·rename_i hg
   obtain⟨v,q1,q2⟩:=DF h hg (hx hg).1
   rw [(hx hg).2]at q1
   exact Ap (q2 w (BY.refl w)) ⟨_,G,hs,Vj h hg q1⟩
  ·rename_i hg
   exact⟨_,G,hs,S6 h (by grind)⟩
 ·rename_i f xs hk
  obtain⟨h1,r,hr,hc,hK⟩:=hs
  split
  ·rename_i hg
   unfold Oper.wp Oper.upon
   rw [KH hk (hc hg).ent w]
   rcases hr with hr | hne
   rotate_left
   ·have hp:=(h1 hg).2
    have h2:=En h (av:=fun b=>G.wr b) (fun _ _ q=>q) (by grind) hp (by simpa using h.args hg (h1 hg).1:An w G (st.args g xs).2 (xs.map a.eval))
    refine((hc hg).run w (xs.map a.eval).toArray (fun b=>G.wr b) (h.inv w h.hsize h.ext) (fun b hb=>h.avlt' hb) (by grind)).mono fun e w' ⟨v,r',he,hq,hpr,hr',hb⟩=>?_
    subst he hq
    exact⟨_,G,hK,Vj (h.same (B7 hb) (Ce hb)) hg (by grind [Oo])⟩
   refine(Oy h hg (h1 hg).1 (h1 hg).2 hr (hc hg) ⟨rfl,rfl,rfl⟩ (BY.refl w)).mono fun e w' ⟨he,hb⟩=>?_
   subst he
   exact⟨_,G,hK,Vj (h.same (B7 hb) (Ce hb)) hg ((DD hr).2 rfl)⟩
  ·rename_i hg
   exact⟨_,G,hK,S6 h (by grind)⟩
 grind
theorem MN {Q:Exit→Act→World→Prop} {K:St→Prop} (hQ: ∀ st' a' w' G',K st'→R F st' a' w' G'→Q .normal a' w'):
 ∀ (l:List Oper) (st:St) (a:Act) (w:World) (G:Au),R F st a w G→Dd P F.I ops l st K→wpList P ops Q l a w
 | [],st,a,w,G,h,hs=>hQ st a w G hs h
 | o::rest,st,a,w,G,h,hs=>by
   refine wpList_step fun K' hK'=>?_
   have hnext: ∀ a' w',U2 F (fun st'=>Dd P F.I ops rest st' K) a' w'→K' a' w':=fun a' w' ⟨st',G',q,hR⟩=>
    hK' a' w' (MN hQ rest st' a' w' G' hR q)
   have hmono: ∀ {o:Oper},o.wp P a w (U2 F (fun st'=>Dd P F.I ops rest st' K)) Q→o.wp P a w K' Q:=fun {o} hw=>by
    unfold Oper.wp Oper.upon at *
    generalize (execOp a.eval o).run P w=r at *
    cases r with
    | ok n w'=>
      cases n<;>simp only at hw ⊢ <;>first
       | exact hnext _ _ hw
       | exact hw.mono fun e w'' he=>by grind
       | exact Rows.mono hw fun v w'' he=>hnext _ _ he
       | exact hw
    | halt x w'=>grind
   simp only [Dd,RC]at hs
   split at hs
   ·rename_i hg
    rw [CO hg,if_pos rfl]
    exact hmono (IQ h hs)
   ·rename_i j want hg
    split at hs
    ·rename_i g hq
     rw [FO h hg hq]
     have:=RE (Q:=Q) h hs
     grind
    grind
end
end Go.PL
namespace Go.PL
open Go Go.RowKit
section
variable {P:Program} {F:Fr} {st:St} {a:Act} {w:World} {G:Au} {ops:Array Oper}
def Jd (w:World) (w':World):Prop:=Dc w w'∧BY w w'
theorem Jd.below {w w' w'':World} (h:Jd w w') (hb:Below w'.heap.size w' w''):Jd w w'':=
 ⟨⟨hb.os.trans h.1.os,hb.tape.trans h.1.tape,hb.output.trans h.1.output⟩,h.2.trans (Ce hb)⟩
theorem FP {o:Oper} {v:Value} {K:Act→Prop} (hr: ∀ w',BY w w'→(execOp a.eval o).run P w'= .ok (.value v) w') (h:K (a.put o.dst v)):o.quiet P a (Jd w) K:=
 ⟨v,fun w' hw'=>by unfold Oper.quietAt;rw [hr w' hw'.2];exact⟨rfl,rfl⟩,h⟩
theorem Z1 (h:R F st a w G) {o:Oper} {K:St→Prop} {K':Act→Prop} (hK: ∀ st' a',K st'→R F st' a' w G→K' a') (hs:je P F.I o st K):o.quiet P a (Jd w) K':=by
 unfold je at hs
 split at hs
 ·obtain⟨v,q1,q2⟩:=DF h rfl hs.1
  exact FP q2 (hK _ _ hs.2 (h.put q1))
 ·obtain⟨v,q1,q2⟩:=DF h rfl hs.1
  exact FP q2 (hK _ _ hs.2 (h.put q1))
 ·rename_i f xs hk
  obtain⟨h1,h2,r,hr,hc,hq⟩:=hs
  refine⟨Vg r,fun w' hw'=>?_,hK _ _ hq (h.put ((DD hr).2 rfl))⟩
  unfold Oper.quietAt
  rw [KH hk hc.ent w']
  exact⟨rfl,(Oy h rfl h1 h2 hr hc hw'.1 hw'.2).mono fun e w'' ⟨he,hb⟩=>⟨he,hw'.below hb⟩⟩
 grind
theorem Z2 (h:R F st a w G) {o:Oper} {g:Bool} {K:St→Prop} {K':Act→Prop} (hK: ∀ st' a',K st'→R F st' a' w G→K' a') (hs:jf P F.I o st g K):
 if g=true then o.quiet P a (Jd w) K' else K' (a.put o.dst Go.undef):=by
 unfold jf at hs
 have rdCase:(∃ x,(g=true→(CA P st g o.op).1∧(CA P st g o.op).2=x)∧K (st.put o.dst (.g g x)))→if g=true then o.quiet P a (Jd w) K' else K' (a.put o.dst Go.undef):=by
  rintro⟨x,hx,hs⟩
  split
  ·rename_i hg
   obtain⟨v,q1,q2⟩:=DF h hg (hx hg).1
   rw [(hx hg).2]at q1
   exact FP q2 (hK _ _ hs (Vj h hg q1))
  ·rename_i hg
   exact hK _ _ hs (S6 h (by grind))
 split at hs
 ·grind
 ·grind
 ·rename_i f xs hk
  obtain⟨h1,r,hr,hc,hq⟩:=hs
  split
  ·rename_i hg
   refine⟨Vg r,fun w' hw'=>?_,hK _ _ hq (Vj h hg ((DD hr).2 rfl))⟩
   unfold Oper.quietAt
   rw [KH hk (hc hg).ent w']
   exact⟨rfl,(Oy h hg (h1 hg).1 (h1 hg).2 hr (hc hg) hw'.1 hw'.2).mono fun e w'' ⟨he,hb⟩=>⟨he,hw'.below hb⟩⟩
  grind
 grind
theorem MO {Q':Act→Prop} {K:St→Prop} (hQ: ∀ st' a',K st'→R F st' a' w G→Q' a'):
 ∀ (l:List Oper) (st:St) (a:Act),R F st a w G→MM P F.I ops l st K→wpQuiet P ops (Jd w) Q' l a
 | [],st,a,h,hs=>hQ st a hs h
 | o::rest,st,a,h,hs=>by
   have hnext: ∀ st' a',MM P F.I ops rest st' K→R F st' a' w G→wpQuiet P ops (Jd w) Q' rest a':=fun st' a' q hR=>MO hQ rest st' a' hR q
   simp only [MM,fT]at hs
   simp only [wpQuiet]
   split at hs
   ·rename_i hg
    rw [CO hg,if_pos rfl]
    exact Z1 h hnext hs
   ·rename_i j want hg
    split at hs
    ·rename_i g hq
     rw [FO h hg hq]
     exact Z2 h hnext hs
    grind
def Ah (P:Program) (F:Fr) (c:Code) (st:St) (Q:Exit→St→Prop):Prop:=
 ∀ a w G,R F st a w G→c.wp P (fun e a' w'=> ∃ st' G',Q e st'∧R F st' a' w' G') a w
def CP (K:St→Prop) (Q:Exit→St→Prop):Exit→St→Prop
 | .normal,st=>K st
 | e,st=>Q e st
def Dq (id:Nat) (Q:Exit→St→Prop):Exit→St→Prop
 | .exit j,st=>if j=id then Q .normal st else Q (.exit j) st
 | e,st=>Q e st
theorem Ah.seq {x y:Code} {Q:Exit→St→Prop} (h:Ah P F x st (CP (fun st'=>Ah P F y st' Q) Q)):Ah P F (.seq x y) st Q:=
 fun a w G hR=>wp_seq (Code.wp_mono (fun e a' w' ⟨st',G',q,hR'⟩=>by
  cases e<;>simp only [Exit.then,CP]at q ⊢ <;>first | exact q a' w' G' hR' | grind) (h a w G hR))
theorem Ah.skip {Q:Exit→St→Prop} (h:Q .normal st):Ah P F .skip st Q:=fun _ _ G hR=>wp_skip ⟨st,G,h,hR⟩
theorem Ah.ret {Q:Exit→St→Prop} (h:Q .ret st):Ah P F .ret st Q:=fun _ _ G hR=>wp_ret ⟨st,G,h,hR⟩
theorem Ah.exit {id:Nat} {Q:Exit→St→Prop} (h:Q (.exit id) st):Ah P F (.exit id) st Q:=fun _ _ G hR=>wp_exit ⟨st,G,h,hR⟩
theorem Ah.block {id:Nat} {c:Code} {Q:Exit→St→Prop} (h:Ah P F c st (Dq id Q)):Ah P F (.block id c) st Q:=
 fun a w G hR=>wp_block (Code.wp_mono (fun e a' w' ⟨st',G',q,hR'⟩=>by
  cases e<;>simp only [Exit.inBlock,Dq]at q ⊢ <;>first
   | grind
   | grind) (h a w G hR))
theorem Ah.cond {c:Operand} {x y:Code} {Q:Exit→St→Prop} {b:Bool} (hc:st.ev c= .c (.bool b)) (h1:b=true→Ah P F x st Q) (h2:b=false→Ah P F y st Q):Ah P F (.cond c x y) st Q:=by
 intro a w G hR
 have:=hR.ev c
 rw [hc]at this
 simp only [Ab,Ac]at this
 refine wp_cond this ?_
 cases b with
 | true=>exact h1 rfl a w G hR
 | false=>exact h2 rfl a w G hR
theorem Ah.region {id:Nat} {ops:Array Oper} {Q:Exit→St→Prop} (h:Dd P F.I ops ops.toList st (Q .normal)):Ah P F (.region id ops false) st Q:=
 fun a w G hR=>wp_region_list (MN (K:=Q .normal) (fun st' _ _ G' q hR'=>⟨st',G',q,hR'⟩) _ _ _ _ _ hR h)
theorem Ah.regionQ {id:Nat} {ops:Array Oper} {Q:Exit→St→Prop} (h1:P.follows .mixedOrders =true) (h2:Region.lexB .any ops=true) (h:MM P F.I ops ops.toList st (Q .normal)):Ah P F (.region id ops true) st Q:=by
 intro a w G hR
 refine wp_region_quiet (C:=Jd w) h1 h2 ⟨⟨rfl,rfl,rfl⟩,⟨Nat.le_refl _,fun _ _=>rfl⟩⟩ ?_
 exact MO (K:=Q .normal) (fun st' a' q hR' w' hw'=>⟨st',G,q,hR'.same hw'.1 hw'.2⟩) _ _ _ hR h
theorem Ah.mono {c:Code} {Q Q':Exit→St→Prop} (h:Ah P F c st Q) (hq: ∀ e st',Q e st'→Q' e st'):Ah P F c st Q':=
 fun a w G hR=>Code.wp_mono (by grind) (h a w G hR)
theorem Ah.less {c:Code} {st':St} {Q:Exit→St→Prop} (hl:Bk st st') (h:Ah P F c st' Q):Ah P F c st Q:=
 fun a w G hR=>h a w G (hR.less hl)
theorem Ah.loop {X:Type} (S:X→St) (inv:X→Prop) (μ:X→Nat) {c:Code} {Q:Exit→St→Prop} (x0:X) (h0:inv x0) (hl:Bk st (S x0))
 (hb: ∀ x,inv x→Ah P F c (S x) (CP (fun st'=> ∃ y,inv y∧μ y<μ x∧Bk st' (S y)) Q)):Ah P F (.loop c) st Q:=by
 intro a w G hR
 refine wp_loop_ghost (fun n a' w'=> ∃ x G',inv x∧μ x=n∧R F (S x) a' w' G') (μ x0) ⟨x0,G,h0,rfl,hR.less hl⟩ ?_
 intro n a' w' ⟨x,G',hx,hn,hR'⟩
 subst hn
 refine Code.wp_mono (fun e a'' w'' ⟨st',G'',q,hR''⟩=>?_) (hb x hx a' w' G' hR')
 cases e<;>simp only [CP]at q
 case normal=>
  obtain⟨y,hy,hm,hl'⟩:=q
  exact⟨μ y,hm,y,G'',hy,rfl,hR''.less hl'⟩
 all_goals exact⟨st',G'',q,hR''⟩
end
end Go.PL
namespace Go.PL
open Go Go.RowKit
def KI (P:Program) (st:St):ResultVar→Prop×V
 | .tmp t=>(True,A1 st (st.get t))
 | .cell t T=>let r:=Cy P T st (st.get t)
   (r.1,A1 st r.2)
def DG (P:Program) (st:St):List ResultVar→Prop×List V
 | []=>(True,[])
 | x::xs=>((KI P st x).1∧(DG P st xs).1,(KI P st x).2::(DG P st xs).2)
def Cp (P:Program) (st:St):List ResultVar→Prop×V
 | [x]=>KI P st x
 | xs=>((DG P st xs).1, .tup (DG P st xs).2)
def YK (P:Program) (fn:Func) (Q:V→Prop):Exit→St→Prop
 | .normal,st=>(Cp P st fn.results.toList).1∧(Cp P st fn.results.toList).2.pure =true∧Q (Cp P st fn.results.toList).2
 | .ret,st=>(Cp P st fn.results.toList).1∧(Cp P st fn.results.toList).2.pure =true∧Q (Cp P st fn.results.toList).2
 | _,_=>False
def St.start (args:List V) (n:Nat):St:={tm:=args++List.replicate (n - args.length) .undef,so:=[]}
theorem C8 {w:World} {G:Au}: ∀ {xs:List V} {vs:List Value},An w G xs vs→xs.length=vs.length
 | [],vs,h=>by grind [An]
 | x::xs,vs,h=>by
   simp only [An]at h
   obtain⟨v,r,rfl,_,h2⟩:=h
   simp [C8 h2]
def Hz (I:World→Prop):Prop:= ∀ w w':World,I w→w.heap.size≤w'.heap.size→(∀ b,b<w.heap.size→w'.heap[b]? =w.heap[b]?)→I w'
theorem R.start {I:World→Prop} (hst:Hz I) {w:World} (hI:I w) {vs:Array Value} {av:Nat→Prop} (hav: ∀ b,av b→b<w.heap.size) {args:List V} (h:An w (im av) args vs.toList) (n:Nat):
 R ⟨w,av,fun _=>False,I,[]⟩ (St.start args n) {tmps:=vs++Array.replicate (n - vs.size) Go.undef,defers:=[]} w (im av):=by
 have hl:=C8 h
 have hl':args.length=vs.size:=by grind
 exact {
  dfr:=rfl
  size:=by simp [St.start,hl']
  slots:=by
   intro i
   simp only [St.start,List.getD_eq_getElem?_getD,Array.getD_eq_getD_getElem?]
   by_cases hi:i<args.length
   ·grind [Fq]
   grind [Ab]
  ghosts:=by simp [St.start,An]
  store:=by simp [St.start]
  deep:=by simp [St.start]
  pures:=by simp [St.start]
  nodup:=by simp [St.start]
  inj:=by simp [im]
  lt:=by simp [im]
  new:=by simp [im]
  wr:=by simp [im]
  avlt:=hav
  inv:=fun w' h1 h2=>hst w w' hI h1 (by grind)
  avold:=by simp
  os:=rfl,tape:=rfl,output:=rfl,hsize:=Nat.le_refl _,ext:=fun _ _ _=>rfl}
section
variable {P:Program} {F:Fr} {st:St} {a:Act} {w:World} {G:Au}
theorem R.out (h:R F st a w G) (hold: ∀ b, ¬F.old b) {x:V} {v:Value} (hp:(A1 st x).pure =true) (hr:Ab w G x v):Ab w (im F.av) (A1 st x) v:=by
 refine RA h (fun b _ hb=>(h.wr b).2 (.inl hb)) (fun id _ _ b hb hav=>?_) hp hr
 rcases h.new id b hb with q | q
 ·have:=h.avlt b hav;omega
 grind
theorem RF {t:TypeId} {x:V} {u:Value} (hx:Ab w G x u) (hs:(Cy P t st x).1): ∃ p,u= .pointer (some p):=by
 unfold Cy at hs
 split at hs
 ·simp only [Ab,Ac]at hx
  grind
 ·simp only [Ab,Ac]at hx
  grind
 grind
def DU (tmps:Array Value):ResultVar→Sem Value
 | .tmp t=>pure (tmps.getD t Go.undef)
 | .cell a t=>do loadVar t (←asAddr (tmps.getD a Go.undef))
theorem Oz (h:R F st a w G) (hold: ∀ b, ¬F.old b) {x:ResultVar} (hs:(KI P st x).1) (hp:(KI P st x).2.pure =true):
 ∃ v,(DU a.tmps x).run P w= .ok v w∧Ab w (im F.av) (KI P st x).2 v:=by
 cases x with
 | tmp t=>exact⟨_,rfl,h.out hold hp (h.slots t)⟩
 | cell t T=>
   simp only [KI]at hs hp ⊢
   obtain⟨v,q1,q2⟩:=H8 (P:=P) h (h.slots t) hs
   obtain⟨p,hptr⟩:=RF (h.slots t) hs
   refine⟨v,?_,h.out hold hp q1⟩
   grind [BY.refl,DU,asAddr,Instr.loadAt,Instr.sureAddr]
theorem MP (h:R F st a w G) (hold: ∀ b, ¬F.old b): ∀ {xs:List ResultVar},(DG P st xs).1→Bv (DG P st xs).2=true→
 ∃ vs,(xs.mapM (DU a.tmps)).run P w= .ok vs w∧An w (im F.av) (DG P st xs).2 vs
 | [],_,_=>(by simp_all [DG,An])
 | x::xs,hs,hp=>by
   simp only [DG]at hs hp ⊢
   simp only [Bv,Bool.and_eq_true]at hp
   obtain⟨v,q1,q2⟩:=Oz h hold hs.1 hp.1
   obtain⟨vs,k1,k2⟩:=MP h hold hs.2 hp.2
   exact⟨v::vs,by simp_all,by simp only [An];grind⟩
theorem Cr {fn:Func} {tmps:Array Value} {vs:List Value} (h:(fn.results.toList.mapM (DU tmps)).run P w= .ok vs w):
 (results fn tmps).run P w= .ok (match vs with | [v]=>v | vs=> .tuple vs.toArray) w:=by
 have e:fn.results.mapM (DU tmps)=List.toArray<$>fn.results.toList.mapM (DU tmps):=by
  obtain⟨l,hl⟩: ∃ l:List ResultVar,fn.results=l.toArray:=(by grind)
  grind
 have e2:results fn tmps=(do
  let vs ←fn.results.mapM (DU tmps)
  pure (if h:vs.size=1 then vs[0]else .tuple vs)):=by
  unfold results
  congr 1
  all_goals (try (congr 1;funext x;cases x<;>rfl))
 rw [e2,e]
 simp only [Sem.run_bind,Sem.run_map,h,Result.andThen_ok]
 match vs with
 | []=>simp
 | [v]=>simp
 | v::u::vs=>simp
theorem Xf (h:R F st a w G) (hold: ∀ b, ¬F.old b) {fn:Func} (hs:(Cp P st fn.results.toList).1) (hp:(Cp P st fn.results.toList).2.pure =true):
 ∃ v,(results fn a.tmps).run P w= .ok v w∧Ab w (im F.av) (Cp P st fn.results.toList).2 v:=by
 unfold Cp at *
 split at hs
 ·rename_i x hx
  simp only [hx]at hp ⊢
  obtain⟨v,q1,q2⟩:=Oz h hold hs hp
  simp_all [Cr]
 ·rename_i xs hne
  split at hp
  ·grind
  ·obtain⟨vs,q1,q2⟩:=MP h hold hs (by simpa only [V.pure] using hp)
   refine⟨.tuple vs.toArray,?_,?_⟩
   ·have:=Cr (P:=P) (w:=w) (fn:=fn) (tmps:=a.tmps) q1
    rw [this]
    have hl:=C8 q2
    match hvs:vs with
    | []=>rfl
    | [v]=>
      exfalso
      have hxl: ∀ xs:List ResultVar,(DG P st xs).2.length =xs.length:=by
       intro xs;induction xs<;>grind [DG]
      rw [hxl]at hl
      match hr:fn.results.toList,hl with
      | [x],_=>grind
    | v::u::vs=>rfl
   ·simp only [Ab];grind
theorem R.below (h:R F st a w G) (hold: ∀ b, ¬F.old b):Below F.w0.heap.size F.w0 w:=⟨h.os,h.tape,h.output,h.hsize,fun b hb=>h.ext b hb (hold b)⟩
end
theorem Bp.of {P:Program} {I:World→Prop} (hst:Hz I) {f:FuncId} {fn:Func} {c:Code} {args:List V} {Q:V→Prop} (hent:PL.ent P f=true) (hf:P.funcs[f]? =some fn) (hb:fn.body=some c)
 (h: ∀ F,F.I=I→Ah P F c (St.start args fn.ntmps) (YK P fn Q)):Bp P I f args Q:=by
 refine⟨hent,fun w vs av hI hav hargs=>calls_of_wp hf hb ?_⟩
 have hR:=R.start hst hI hav hargs fn.ntmps
 refine Code.wp_mono (fun e a' w' ⟨st',G',q,hR'⟩=>?_) (h _ rfl _ _ _ hR)
 have fin:(Cp P st' fn.results.toList).1∧(Cp P st' fn.results.toList).2.pure =true∧Q (Cp P st' fn.results.toList).2→
  a'.defers=[]∧ ∃ v,(results fn a'.tmps).run P w'= .ok v w'∧(fun(e:Ending) w''=> ∃ v r,e= .returned v∧Q r∧r.pure=true∧Ab w'' (im av) r v∧Below w.heap.size w w'') (.returned v) w':=by
  intro ⟨q1,q2,q3⟩
  obtain⟨v,k1,k2⟩:=Xf hR' (fun _ hx=>hx) (fn:=fn) q1 q2
  exact⟨hR'.dfr,v,k1,v,_,rfl,q3,q2,k2,hR'.below (fun _ hx=>hx)⟩
 cases e<;>simp only [YK]at q<;>first | exact fin q | exact q.elim
end Go.PL
namespace Go.PL
open Go Go.RowKit
section
variable {P:Program} {I:World→Prop} {F:Fr} {ops:Array Oper} {rest:List Oper} {st st1:St} {d:Option Nat} {op:Op} {ty:TypeId} {pos:String} {af:Array Edge}
variable {K:St→Prop}
theorem Dq.out {Q:Exit→St→Prop} {i:Nat} (h:Q .normal st):Dq i Q (.exit i) st:=by simp_all [Dq]
variable {j:Nat} {want g:Bool}
theorem Bp.body (hsta:Hz I) {f:FuncId} {fn:Func} {c:Code} {args:List V} {Q:V→Prop} {n:Nat} {rs:List ResultVar} (hent:PL.ent P f=true) (hf:P.funcs[f]? =some fn) (hb:fn.body=some c) (hn:fn.ntmps=n) (hr:fn.results=rs.toArray)
 (hst:St.start args n=st)
 (h: ∀ w0 av old gv,Ah P ⟨w0,av,old,I,gv⟩ c st (fun e st'=>(e= .normal ∨e= .ret)∧(Cp P st' rs).1∧(Cp P st' rs).2.pure =true∧Q (Cp P st' rs).2)):Bp P I f args Q:=by
 refine Bp.of hsta hent hf hb (fun F hF=>?_)
 obtain⟨w0,av,old,I',gv⟩:=F
 simp only at hF;subst hF
 rw [hn,hst]
 refine(h w0 av old gv).mono fun e st' ⟨he,q⟩=>?_
 have:fn.results.toList=rs:=by rw [hr]
 rcases he with rfl | rfl<;>simp only [YK,this]<;>exact q
end
end Go.PL
namespace Go.PL
open Go Go.RowKit
attribute [go_sem] A2 CA rd bnd Jp St.arg St.args St.ev St.get Hv BK CD Oj Jo NE GV AL EJ Fe GU fM QH Xc B2 QG
 St.put St.after St.look St.lookR St.setCs St.cutAt St.freeze St.new St.kill Ak.kill St.start St.parts
 Cy toV Bh FH Bu E9 Ei Jm S0 S1 FJ Gr J7 Jl Ib Ff V.cells Em NF Xd DT MJ Gu AI PL.ef Kz
 EG Gw A1 KG cg B0 EL CN C.men Bd V.men GG C.flat V.flat GH C.pure Aj V.pure Bv Cp KI DG Gm GY HV St.okFrz
attribute [go_sem] List.getD_cons_zero List.getD_cons_succ List.set_cons_zero List.set_cons_succ List.map_cons List.map_nil List.filter_cons List.filter_nil List.find?_cons List.find?_nil
 List.cons_append List.nil_append List.length_cons List.length_nil List.replicate_succ List.replicate_zero List.take_succ_cons List.take_zero List.drop_succ_cons List.drop_zero List.flatMap_cons List.flatMap_nil List.append_nil
 List.all_cons List.all_nil Bool.and_true Bool.true_and Bool.and_false Bool.false_and Bool.or_false Bool.or_true Bool.false_or Bool.true_or
 beq_self_eq_true if_true if_false true_and and_true Option.map_some Option.map_none List.getElem?_cons_zero List.getElem?_cons_succ
theorem jS {α:Type} (a b:α):(if true=true then a else b)=a:=rfl
theorem jT {α:Type} (a b:α):(if false=true then a else b)=b:=rfl
theorem mR:(true=true)=True:=by simp
theorem mS:(false=true)=False:=by simp
theorem jU (p:Prop):(true=true→p)=p:=by simp
theorem ite_ff' (b:Bool):(if b then true else false)=b:=by grind
theorem beq_true' (b:Bool):(b==true)=b:=by simp_all
theorem beq_false' (b:Bool):(b==false)= !b:=by grind
theorem fU (b c:Bool):(if b then c else false)=(b&&c):=by grind
theorem jV (b c:Bool):(if b then true else c)=(b||c):=by grind
attribute [go_sem] jS jT mR mS jU ite_ff' beq_true' beq_false' fU jV Bool.not_true Bool.not_false Bool.not_not
end Go.PL
