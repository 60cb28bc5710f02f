/- The pure logic: PlA, PlB, PlC, PlD, PlE, PlF, PlG, PlH, PlI, PlJ, PlK, PlL, PlLe, PlM, PlN, PlO, PlP, PlQ. -/
import Derived.WalkKit
import Derived.WalkSpells
import Derived.WalkLawsBesides
import Derived.Deep.MidRow
import Derived.Deep.LoopGhost
import Derived.Deep.QuietTactic
import Derived.BigQuiet
import Derived.Laws.StructEq
import Derived.DeepKeys
open Nat (le_refl lt_of_lt_of_le zero_le add_mul le_trans add_zero)
open Bool (and_eq_true false_eq_true not_eq_true')
open List (map_cons mem_map mem_filter take_append_drop find?_some drop_drop flatMap_cons mem_iff_getElem getD_cons_zero cons_append foldl_cons map_map)
open Option.some (injEq)
open Option (map_some)
set_option linter.all false
namespace Go.PL
open Go Go.RowKit
abbrev Ah:=List Nat
inductive C where
 | int (k:IntKind) (n:Int)
 | bool (b:Bool)
 | str (s:List UInt8)
 | sl (len:Nat) (cs:List C)
 | e_ (id:Ah)
 | ptr (id:Ah) (off:Nat)
 | bsl (id:Ah) (off len:Nat)
 | bld (id:Ah) (T:TypeId)
 | abQ (cs:List C) (off:Nat)
 | acu
 | aak
 | s_
 | fn (f:FuncId)
 | clo (f:FuncId) (cs:List C)
 | held
 | any
 | agA (id:Ah)
 | agK (g off:Nat)
 | bmv (f:FuncId) (cs:List C)
 | mp (kv:List (Int×Int))
 | isl (E:TypeId) (n len:Nat) (cs:List C)
 | rsl (id:Ah) (N off len:Nat)
inductive V where
 | c (x:C)
 | agg (cs:List C)
 | tup (vs:List V)
 | g (b:Bool) (v:V)
 | undef
structure AG where
 m_:Ah->Option Nat
 own:Ah->Option Value
 wr:Nat->Prop
mutual
def C.pure:C->Bool
 | .e_ _=>false
 | .ptr .. =>false
 | .bsl .. =>false
 | .rsl .. =>false
 | .bld .. =>false
 | .agA _=>false
 | .mp _=>false
 | .clo _ cs=>Ao cs
 | .bmv _ cs=>Ao cs
 | _=>true
def Ao:List C->Bool
 | []=>true
 | c::cs=>c.pure&&Ao cs
end
mutual
def Ad (w:World) (G:AG):C->Value->Prop
 | .int k n,v=>v= .int k n
 | .bool b,v=>v= .bool b
 | .str s,v=>v= .string ⟨s.toArray⟩
 | .sl len cs,v=>Ao cs=true/\ ∃ a cap,v= .slice a len cap/\len<=cap/\cap<=maxLen/\(len=0->cs=[])/\
  (len=0\/ ∃ b off,a=some ⟨b,off,none⟩/\ ¬G.wr b/\b<w.heap.size/\An w G cs b off)
 | .e_ id,v=>G.own id=some v/\v.oneCell'=true
 | .ptr id off,v=> ∃ b,G.m_ id=some b/\v= .pointer (some ⟨b,off,none⟩)
 | .bsl id off len,v=> ∃ b cap o,G.m_ id=some b/\v= .slice (some ⟨b,o,none⟩) len cap/\len<=cap/\o<=off/\(len=0\/o=off)
 | .bld id T,v=> ∃ b,G.m_ id=some b/\(∃ cur fz,w.heap[b]? =some (.cells cur T fz))/\(v= .pointer none\/v= .pointer (some ⟨b,0,none⟩))
 | .abQ cs off,v=>Ao cs=true/\ ∃ b o,v= .pointer (some ⟨b,o+off,none⟩)/\ ¬G.wr b/\b<w.heap.size/\An w G cs b o
 | .acu,v=>v= .pointer none
 | .aak,v=>v= .nilIface
 | .s_,v=>v= .slice none 0 0
 | .fn f,v=>v= .func (.func f) #[] #[]
 | .clo f cs,v=> ∃ arr:Array Value,v= .func (.func f) #[] arr/\Aj w G cs arr.toList
 | .bmv f cs,v=> ∃ arr:Array Value,v= .func (.func f) arr #[]/\Aj w G cs arr.toList
 | .held,v=> ∃ t x,v= .iface t x
 | .any,v=>v.oneCell'=true
 | .agA id,v=> ∃ b,G.m_ id=some b/\v= .map (some b)
 | .agK g off,v=>v= .pointer (some ⟨g,off,none⟩)
 | .mp _,_=>False
 | .isl ..,v=>v.oneCell'=true
 | .rsl id N off len,v=> ∃ b ahY aiP o cap,G.own id=some (.slice (some ⟨b,0,none⟩) ahY aiP)/\v= .slice (some ⟨b,o,none⟩) len cap/\len<=cap/\off+cap=aiP/\(off<aiP->o=off*N)
def An (w:World) (G:AG):List C->Nat->Nat->Prop
 | [],_,_=>True
 | c::cs,b,off=>(∃ v,w.cell? ⟨b,off,none⟩=some v/\Ad w G c v)/\An w G cs b (off+1)
def Aj (w:World) (G:AG):List C->List Value->Prop
 | [],[]=>True
 | c::cs,v::vs=>Ad w G c v/\Aj w G cs vs
 | [],_::_=>False
 | _::_,[]=>False
end
mutual
def Ab (w:World) (G:AG):V->Value->Prop
 | .c x,v=>Ad w G x v
 | .agg cs,v=> ∃ arr,v= .agg arr/\Aj w G cs arr.toList
 | .tup vs,v=> ∃ arr,v= .tuple arr/\Aq w G vs arr.toList
 | .g b x,v=>if b then Ab w G x v else v=Go.undef
 | .undef,_=>True
def Aq (w:World) (G:AG):List V->List Value->Prop
 | [],vs=>vs=[]
 | x::xs,vs=> ∃ v r,vs=v::r/\Ab w G x v/\Aq w G xs r
end
mutual
def C.p_ (id:Ah):C->Bool
 | .e_ i=>i==id
 | .ptr i _=>i==id
 | .bsl i _ _=>i==id
 | .rsl i _ _ _=>i==id
 | .bld i _=>i==id
 | .agA i=>i==id
 | .clo _ cs=>BP id cs
 | .bmv _ cs=>BP id cs
 | _=>false
def BP (id:Ah):List C->Bool
 | []=>false
 | c::cs=>c.p_ id||BP id cs
end
mutual
theorem Ic (id:Ah): ∀ c:C,c.pure=true->c.p_ id=false
 | .e_ _,h=>by simp [C.pure]at h
 | .ptr ..,h=>by simp [C.pure]at h
 | .bsl ..,h=>by simp [C.pure]at h
 | .rsl ..,h=>by simp [C.pure]at h
 | .bld ..,h=>by simp [C.pure]at h
 | .agA ..,h=>by simp [C.pure]at h
 | .mp ..,h=>by simp [C.pure]at h
 | .isl ..,_=>by simp [C.p_]
 | .agK ..,_=>by simp [C.p_]
 | .clo _ cs,h=>by simp only [C.p_];exact AP id cs (by simpa only [C.pure] using h)
 | .bmv _ cs,h=>by simp only [C.p_];exact AP id cs (by simpa only [C.pure] using h)
 | .sl ..,_=>by simp [C.p_]
 | .abQ ..,_=>by simp [C.p_]
 | .int ..,_=>by simp [C.p_]
 | .bool _,_=>by simp [C.p_]
 | .str _,_=>by simp [C.p_]
 | .acu,_=>by simp [C.p_]
 | .aak,_=>by simp [C.p_]
 | .s_,_=>by simp [C.p_]
 | .fn _,_=>by simp [C.p_]
 | .held,_=>by simp [C.p_]
 | .any,_=>by simp [C.p_]
theorem AP (id:Ah): ∀ cs:List C,Ao cs=true->BP id cs=false
 | [],_=>by simp [BP]
 | c::cs,h=>by simp only [Ao,and_eq_true]at h;simp [BP,Ic id c h.1,AP id cs h.2]
end
theorem Cf: ∀ l:List C,Ao l=l.all C.pure
 | []=>rfl
 | c::l=>by simp [Ao,Cf l]
theorem BT (l m:List C):Ao (l++m)=(Ao l&&Ao m):=by simp [Cf]
theorem PY {α:Type} (f:α->C) (h: ∀ x,(f x).pure =true) (l:List α):Ao (l.map f)=true:=by simp [Cf,h]
theorem AV {α:Type} (f:α->List C) (h: ∀ x,Ao (f x)=true): ∀ l:List α,Ao (l.flatMap f)=true
 | []=>rfl
 | a::l=>by rw [flatMap_cons,BT,h,AV f h l];rfl
theorem MT {l:List C} (n:Nat) (h:Ao l=true):Ao (l.take n)=true:=by grind [Cf]
theorem MU {l:List C} (n:Nat) (h:Ao l=true):Ao (l.drop n)=true:=by grind [Cf]
theorem ve {l:List C} (n:Nat) (h:Ao l=true):(l.getD n .any).pure =true:=by
 rw [List.getD_eq_getElem?_getD];cases hx:l[n]? with
 | none=>rfl
 | some x=>grind [Cf]
def JQ (S:Ah->Prop) (G G':AG):Prop:= ∀ id,S id->G'.m_ id=G.m_ id/\G'.own id=G.own id
def Cg (w w':World) (b:Nat):Prop:= ∀ cur T fz,w.heap[b]? =some (.cells cur T fz)-> ∃ adG fz',w'.heap[b]? =some (.cells adG T fz')
theorem Cg.same {w w':World} {b:Nat} (h:w'.heap[b]? =w.heap[b]?):Cg w w' b:=fun cur _ fz q=>⟨cur,fz,h.trans q⟩
structure Co (G G':AG) (w w':World):Prop where
 size:w.heap.size<=w'.heap.size
 block: ∀ b,b<w.heap.size-> ¬G.wr b->w'.heap[b]? =w.heap[b]?
 wr: ∀ b,b<w.heap.size->G'.wr b->G.wr b
 ty: ∀ i b,G.m_ i=some b->G'.m_ i=some b->Cg w w' b
mutual
theorem Ad.one {w:World} {G:AG}: ∀ {c:C} {v:Value},Ad w G c v->v.oneCell'=true
 | .int ..,v,h=>by simp only [Ad]at h;subst h;rfl
 | .bool ..,v,h=>by simp only [Ad]at h;subst h;rfl
 | .str ..,v,h=>by simp only [Ad]at h;subst h;rfl
 | .sl ..,v,h=>by simp only [Ad]at h;obtain⟨_,a,cap,rfl,_⟩:=h;rfl
 | .e_ _,v,h=>by grind [Ad]
 | .ptr ..,v,h=>by simp only [Ad]at h;obtain⟨b,_,rfl⟩:=h;rfl
 | .bsl ..,v,h=>by simp only [Ad]at h;obtain⟨b,cap,o,_,rfl,_⟩:=h;rfl
 | .rsl ..,v,h=>by simp only [Ad]at h;obtain⟨_,_,_,_,_,_,rfl,_⟩:=h;rfl
 | .bld ..,v,h=>by simp only [Ad]at h;obtain⟨b,_,_,rfl | rfl⟩:=h<;>rfl
 | .abQ ..,v,h=>by simp only [Ad]at h;obtain⟨_,b,o,rfl,_⟩:=h;rfl
 | .acu,v,h=>by simp only [Ad]at h;subst h;rfl
 | .aak,v,h=>by simp only [Ad]at h;subst h;rfl
 | .s_,v,h=>by simp only [Ad]at h;subst h;rfl
 | .fn _,v,h=>by simp only [Ad]at h;subst h;rfl
 | .clo ..,v,h=>by simp only [Ad]at h;obtain⟨arr,rfl,_⟩:=h;rfl
 | .bmv ..,v,h=>by simp only [Ad]at h;obtain⟨arr,rfl,_⟩:=h;rfl
 | .held,v,h=>by simp only [Ad]at h;obtain⟨t,x,rfl⟩:=h;rfl
 | .any,v,h=>by grind [Ad]
 | .agA ..,v,h=>by simp only [Ad]at h;obtain⟨b,_,rfl⟩:=h;rfl
 | .mp ..,v,h=>by simp only [Ad]at h
 | .isl ..,v,h=>by grind [Ad]
 | .agK ..,v,h=>by simp only [Ad]at h;subst h;rfl
end
theorem X_ {w w':World} {b:Nat} (h:w'.heap[b]? =w.heap[b]?) (o:Nat):w'.cell? ⟨b,o,none⟩=w.cell? ⟨b,o,none⟩:=
 (by grind [World.cell?_of_block])
mutual
theorem Ad.mono {w w':World} {G G':AG} (hk:Co G G' w w'): ∀ (c:C) (v:Value),JQ (fun id=>c.p_ id=true) G G'->Ad w G c v->Ad w' G' c v
 | .int ..,_,_,h=>by grind [Ad]
 | .bool ..,_,_,h=>by grind [Ad]
 | .str ..,_,_,h=>by grind [Ad]
 | .sl len cs,v,ha,h=>by
   simp only [Ad]at h ⊢;obtain⟨hp,a,cap,h1,h2,h3,h4,h5⟩:=h;refine⟨hp,a,cap,h1,h2,h3,h4,?_⟩;rcases h5 with h5 | ⟨b,off,e,hm,hb,hr⟩
   ·grind
   ·exact .inr ⟨b,off,e,fun hm'=>hm (hk.wr b hb hm'),lt_of_lt_of_le hb hk.size,An.mono hk cs b off (fun id hid=>absurd (show BP id cs=true from hid) (by rw [AP id cs hp];simp)) (fun o=>X_ (hk.block b hb hm) o) hr⟩
 | .e_ id,v,ha,h=>by simp only [Ad]at h ⊢;rw [(ha id (by simp [C.p_])).2];exact h
 | .ptr id off,v,ha,h=>by simp only [Ad]at h ⊢;rw [(ha id (by simp [C.p_])).1];exact h
 | .bsl id off len,v,ha,h=>by simp only [Ad]at h ⊢;rw [(ha id (by simp [C.p_])).1];exact h
 | .rsl id N off len,v,ha,h=>by simp only [Ad]at h ⊢;rw [(ha id (by simp [C.p_])).2];exact h
 | .bld id T,v,ha,h=>by
   simp only [Ad]at h ⊢;obtain⟨b,h1,⟨cur,fz,h2⟩,h3⟩:=h;have h4:G'.m_ id=some b:=by rw [(ha id (by simp [C.p_])).1];exact h1
   exact⟨b,h4,hk.ty id b h1 h4 cur T fz h2,h3⟩
 | .abQ cs off,v,ha,h=>by simp only [Ad]at h ⊢;obtain⟨hp,b,o,e,hm,hb,hr⟩:=h;exact⟨hp,b,o,e,fun hm'=>hm (hk.wr b hb hm'),lt_of_lt_of_le hb hk.size,An.mono hk cs b o (fun id hid=>absurd (show BP id cs=true from hid) (by rw [AP id cs hp];simp)) (fun o=>X_ (hk.block b hb hm) o) hr⟩
 | .acu,_,_,h=>by grind [Ad]
 | .aak,_,_,h=>by grind [Ad]
 | .s_,_,_,h=>by grind [Ad]
 | .fn _,_,_,h=>by grind [Ad]
 | .clo f cs,v,ha,h=>by simp only [Ad]at h ⊢;obtain⟨arr,e,hr⟩:=h;exact⟨arr,e,Aj.mono hk cs _ (fun id hid=>ha id (by simpa only [C.p_] using hid)) hr⟩
 | .bmv f cs,v,ha,h=>by simp only [Ad]at h ⊢;obtain⟨arr,e,hr⟩:=h;exact⟨arr,e,Aj.mono hk cs _ (fun id hid=>ha id (by simpa only [C.p_] using hid)) hr⟩
 | .held,_,_,h=>by grind [Ad]
 | .any,_,_,h=>by grind [Ad]
 | .agA id,v,ha,h=>by simp only [Ad]at h ⊢;rw [(ha id (by simp [C.p_])).1];exact h
 | .mp ..,_,_,h=>by simp only [Ad]at h
 | .isl ..,_,_,h=>by grind [Ad]
 | .agK ..,_,_,h=>by grind [Ad]
theorem An.mono {w w':World} {G G':AG} (hk:Co G G' w w'): ∀ (cs:List C) (b off:Nat),JQ (fun id=>BP id cs=true) G G'->(∀ o,w'.cell? ⟨b,o,none⟩=w.cell? ⟨b,o,none⟩)->An w G cs b off->An w' G' cs b off
 | [],_,_,_,_,h=>by simp only [An]
 | c::cs,b,off,ha,hc,h=>by
   simp only [An]at h ⊢;obtain⟨⟨v,hv,hr⟩,ai5⟩:=h;exact⟨⟨v,by grind,Ad.mono hk c v (fun id hid=>ha id (by simp_all [BP])) hr⟩,
    An.mono hk cs b (off+1) (fun id hid=>ha id (by simp_all [BP])) hc ai5⟩
theorem Aj.mono {w w':World} {G G':AG} (hk:Co G G' w w'): ∀ (cs:List C) (vs:List Value),JQ (fun id=>BP id cs=true) G G'->Aj w G cs vs->Aj w' G' cs vs
 | [],[],_,_=>by simp only [Aj]
 | [],_::_,_,h=>by simp only [Aj]at h
 | _::_,[],_,h=>by simp only [Aj]at h
 | c::cs,v::vs,ha,h=>by
   simp only [Aj]at h ⊢;exact⟨Ad.mono hk c v (fun id hid=>ha id (by simp_all [BP])) h.1,
    Aj.mono hk cs vs (fun id hid=>ha id (by simp_all [BP])) h.2⟩
end
mutual
def V.p_ (id:Ah):V->Bool
 | .c x=>x.p_ id
 | .agg cs=>BP id cs
 | .tup vs=>LG id vs
 | .g b v=>v.p_ id&&b
 | .undef =>false
def LG (id:Ah):List V->Bool
 | []=>false
 | v::vs=>v.p_ id||LG id vs
end
mutual
theorem Ab.mono {w w':World} {G G':AG} (hk:Co G G' w w'): ∀ (x:V) (v:Value),JQ (fun id=>x.p_ id=true) G G'->Ab w G x v->Ab w' G' x v
 | .c x,v,ha,h=>by grind [Ab,Ad.mono,V.p_]
 | .agg cs,v,ha,h=>by grind [Ab,Aj.mono,V.p_]
 | .tup vs,v,ha,h=>by simp only [Ab]at h ⊢;obtain⟨arr,e,hr⟩:=h;exact⟨arr,e,Aq.mono hk vs _ (by simpa only [V.p_] using ha) hr⟩
 | .g b x,v,ha,h=>by
   simp only [Ab]at h ⊢;split
   ·rename_i hb;rw [if_pos hb]at h;exact Ab.mono hk x v (fun id hid=>ha id (by simp only [V.p_,hb,hid,Bool.and_self])) h
   grind
 | .undef,_,_,_=>by simp only [Ab]
theorem Aq.mono {w w':World} {G G':AG} (hk:Co G G' w w'): ∀ (xs:List V) (vs:List Value),JQ (fun id=>LG id xs=true) G G'->Aq w G xs vs->Aq w' G' xs vs
 | [],_,_,h=>by grind [Aq]
 | x::xs,vs,ha,h=>by
   simp only [Aq]at h ⊢;obtain⟨v,r,e,h1,h2⟩:=h;exact⟨v,r,e,Ab.mono hk x v (fun id hid=>ha id (by simp_all [LG])) h1,
    Aq.mono hk xs r (fun id hid=>ha id (by simp_all [LG])) h2⟩
end
theorem Aj.length {w:World} {G:AG}: ∀ {cs:List C} {vs:List Value},Aj w G cs vs->cs.length=vs.length
 | [],[],_=>rfl
 | [],_::_,h=>by simp only [Aj]at h
 | _::_,[],h=>by simp only [Aj]at h
 | c::cs,v::vs,h=>by simp only [Aj]at h;simp [Aj.length h.2]
theorem Aj.get {w:World} {G:AG}: ∀ {cs:List C} {vs:List Value},Aj w G cs vs-> ∀ (i:Nat) (c:C),cs[i]? =some c-> ∃ v,vs[i]? =some v/\Ad w G c v
 | [],[],_,i,c,hc=>by simp at hc
 | [],_::_,h,_,_,_=>by grind
 | _::_,[],h,_,_,_=>by simp only [Aj]at h
 | c::cs,v::vs,h,i,d,hd=>by
   simp only [Aj]at h;cases i with
   | zero=>simp at hd;subst hd;exact⟨v,by simp,h.1⟩
   | succ i=>simp at hd;obtain⟨v',h1,h2⟩:=Aj.get h.2 i d hd;exact⟨v',by simpa using h1,h2⟩
theorem Aj.one {w:World} {G:AG}: ∀ {cs:List C} {vs:List Value},Aj w G cs vs-> ∀ v∈vs,v.oneCell'=true
 | [],[],_,v,hv=>by cases hv
 | [],_::_,h,_,_=>by simp only [Aj]at h
 | _::_,[],h,_,_=>by grind
 | c::cs,v::vs,h,u,hu=>by
   simp only [Aj]at h;rcases List.mem_cons.1 hu with rfl | hu
   ·exact Ad.one h.1
   ·exact Aj.one h.2 u hu
theorem Aj.drop {w:World} {G:AG}: ∀ {cs:List C} {vs:List Value},Aj w G cs vs-> ∀ n,Aj w G (cs.drop n) (vs.drop n)
 | cs,vs,h,0=>by grind
 | [],[],h,n+1=>by simp [Aj]
 | [],_::_,h,_+1=>by simp only [Aj]at h
 | _::_,[],h,_+1=>by simp only [Aj]at h
 | c::cs,v::vs,h,n+1=>by simp only [Aj]at h;simpa using Aj.drop h.2 n
theorem Aj.take {w:World} {G:AG}: ∀ {cs:List C} {vs:List Value},Aj w G cs vs-> ∀ n,Aj w G (cs.take n) (vs.take n)
 | cs,vs,h,0=>by simp [Aj]
 | [],[],h,n+1=>by simp [Aj]
 | [],_::_,h,_+1=>by simp only [Aj]at h
 | _::_,[],h,_+1=>by simp only [Aj]at h
 | c::cs,v::vs,h,n+1=>by simp only [Aj]at h;simp only [List.take_succ_cons,Aj];exact⟨h.1,Aj.take h.2 n⟩
theorem Aj.append {w:World} {G:AG}: ∀ {cs:List C} {vs:List Value} {ds:List C} {us:List Value},Aj w G cs vs->Aj w G ds us->Aj w G (cs++ds) (vs++us)
 | [],[],_,_,_,h'=>by grind
 | [],_::_,_,_,h,_=>by simp only [Aj]at h
 | _::_,[],_,_,h,_=>by simp only [Aj]at h
 | c::cs,v::vs,ds,us,h,h'=>by simp only [Aj]at h;simp only [cons_append,Aj];exact⟨h.1,Aj.append h.2 h'⟩
theorem An.list {w:World} {G:AG}: ∀ {cs:List C} {b off:Nat},An w G cs b off-> ∃ vs,Aj w G cs vs/\w.rangeAt b off vs
 | [],b,off,_=>⟨[],by simp only [Aj],fun j v h=>by simp at h⟩
 | c::cs,b,off,h=>by
   simp only [An]at h;obtain⟨⟨v,hv,hr⟩,ai5⟩:=h;obtain⟨vs,h1,h2⟩:=An.list ai5;refine⟨v::vs,by simp only [Aj];exact⟨hr,h1⟩,fun j u hu=>?_⟩;cases j with
   | zero=>simp at hu;subst hu;simpa using hv
   | succ j=>simp at hu;have:=h2 j u hu;rw [show off+(j+1)=off+1+j by omega];exact this
theorem An.aaA {w:World} {G:AG}: ∀ {cs:List C} {vs:List Value} {b off:Nat},Aj w G cs vs->w.rangeAt b off vs->An w G cs b off
 | [],[],b,off,_,_=>by simp only [An]
 | [],_::_,_,_,h,_=>by simp only [Aj]at h
 | _::_,[],_,_,h,_=>by simp only [Aj]at h
 | c::cs,v::vs,b,off,h,hr=>by simp only [Aj]at h;simp only [An];refine⟨⟨v,by simpa using hr 0 v (by simp),h.1⟩,An.aaA h.2 (fun j u hu=>?_)⟩;have:=hr (j+1) u (by simpa using hu);rw [show off+1+j=off+(j+1) by omega];exact this
theorem An.drop {w:World} {G:AG} {cs:List C} {b off:Nat} (h:An w G cs b off) (n:Nat):An w G (cs.drop n) b (off+n):=by obtain⟨vs,h1,h2⟩:=h.list;refine An.aaA (h1.drop n) (fun j v hv=>?_);rw [List.getElem?_drop]at hv;have:=h2 _ v hv;grind
theorem An.take {w:World} {G:AG} {cs:List C} {b off:Nat} (h:An w G cs b off) (n:Nat):An w G (cs.take n) b off:=by
 obtain⟨vs,h1,h2⟩:=h.list;refine An.aaA (h1.take n) (fun j v hv=>?_);rw [List.getElem?_take]at hv;split at hv
 ·exact h2 j v hv
 ·cases hv
end Go.PL
namespace Go.PL
open Go Go.RowKit
structure Aw where
 id:Ah
 row:Option (TypeId×Nat×Nat)
 cs:List C
 pu:Bool:=false
structure St where
 tm:List V
 so:List Aw
 gh:List V:=[]
 pre:Ah:=[]
structure Fr where
 w0:World
 av:Nat->Prop
 old:Nat->Prop
 I:World->Prop
 gv:List Value:=[]
def Ahd (kv:List (Int×Int)) (es:List MapEntry):Prop:=
 es=kv.zipIdx.map fun p=>⟨.int .i64 p.1.1, .int .i64 p.1.2,p.2⟩
def xt (w:World) (G:AG) (cs:List C) (b:Nat):Prop:=
 (∃ kv es,cs=[.mp kv]/\w.heap[b]? =some (.map es kv.length)/\Ahd kv es.toList/\(kv.map (·.1)).Nodup)\/
 (∃ T cur,w.heap[b]? =some (.cells cur T (0,0))/\cur.size=cs.length/\An w G cs b 0)
def iU:List C->Bool
 | [.mp _]=>true
 | _=>false
theorem xt.cells {w:World} {G:AG} {cs:List C} {b:Nat} (h:xt w G cs b) (hn:iU cs=false): ∃ T cur,w.heap[b]? =some (.cells cur T (0,0))/\cur.size=cs.length/\An w G cs b 0:=by
 rcases h with ⟨kv,es,rfl,_⟩ | h
 ·cases hn
 ·exact h
def Bc (w:World) (G:AG) (e:Aw):Prop:=
 match e.row with
 | none=> ∃ b,G.m_ e.id=some b/\xt w G e.cs b
 | some (E,n,len)=>e.cs.length=len*n/\ ∃ v,G.own e.id=some v/\
  ((∃ p,v= .slice p 0 0/\len=0/\G.m_ e.id=none)\/
   ∃ b cap cur,v= .slice (some ⟨b,0,none⟩) len cap/\G.m_ e.id=some b/\w.heap[b]? =some (.cells cur E (0,0))/\len<=cap/\cap<=maxLen/\cur.size=cap*n/\An w G e.cs b 0)
def C4:Ah->Bool
 | []=>false
 | d::_=>Nat.beq d 1000007
def Fh:Ah->Bool
 | []=>false
 | d::_=>Nat.beq d 1000003
def BO (k:Nat) (id:Ah):Ah:=1000007::k::id
theorem Sn {k j:Nat} {a b:Ah} (h:BO k a=BO j b):k=j/\a=b:=by grind [BO]
theorem lZ (k:Nat) (id:Ah):C4 (BO k id)=true:=rfl
def EU (w:World) (G:AG) (e:Aw):Prop:=
 ∀ k E n len cs,e.cs[k]? =some (.isl E n len cs)->Ao cs=true/\Bc w G ⟨BO k e.id,some (E,n,len),cs,true⟩/\
   ∃ b v,G.m_ e.id=some b/\w.cell? ⟨b,k,none⟩=some v/\G.own (BO k e.id)=some v
def BC (w:World) (G:AG) (e:Aw):Prop:=C4 e.id=false/\(Fh e.id=true->e.pu=true/\e.row.isSome=true/\EU w G e)
structure R (F:Fr) (st:St) (a:Act) (w:World) (G:AG):Prop where
 dfr:a.defers=[]
 size:a.tmps.size=st.tm.length
 v_: ∀ i,Ab w G (st.tm.getD i .undef) (a.tmps.getD i Go.undef)
 F_:Aq w G st.gh F.gv
 store: ∀ e∈st.so,Bc w G e
 deep: ∀ e∈st.so,BC w G e
 x_: ∀ e∈st.so,e.pu=true->Ao e.cs=true
 nodup:(st.so.map (·.id)).Nodup
 inj: ∀ i j b,G.m_ i=some b->G.m_ j=some b->i=j
 lt: ∀ i b,G.m_ i=some b->b<w.heap.size
 new: ∀ i b,G.m_ i=some b->F.w0.heap.size<=b\/F.old b
 wr: ∀ b,G.wr b↔F.av b\/ ∃ i,G.m_ i=some b
 aaS: ∀ b,F.av b->b<F.w0.heap.size
 inv: ∀ w',F.w0.heap.size<=w'.heap.size->(∀ b,b<F.w0.heap.size-> ¬F.old b->w'.heap[b]? =F.w0.heap[b]?)->F.I w'
 aah: ∀ b,F.old b-> ¬F.av b
 os:w.os=F.w0.os
 tape:w.tape=F.w0.tape
 output:w.output=F.w0.output
 u_:F.w0.heap.size<=w.heap.size
 ext: ∀ b,b<F.w0.heap.size-> ¬F.old b->w.heap[b]? =F.w0.heap[b]?
def St.get (st:St) (t:Nat):V:=st.tm.getD t .undef
def St.put (st:St) (d:Option Nat) (v:V):St:=
 match d with
 | some d=>{st with tm:=st.tm.set d v}
 | none=>st
def CW:Value->Option C
 | .int k n=>some (.int k n)
 | .bool b=>some (.bool b)
 | .string s=>some (.str s.data.toList)
 | .pointer none=>some .acu
 | .nilIface =>some .aak
 | .slice none 0 0=>some (.sl 0 [])
 | .map none=>some .any
 | _=>none
def D5:List Value->Option (List C)
 | []=>some []
 | v::vs=>match CW v,D5 vs with
   | some c,some cs=>some (c::cs)
   | _,_=>none
def MV:Value->V
 | .agg cs=>match D5 cs.toList with
   | some l=> .agg l
   | none=> .undef
 | v=>match CW v with
   | some c=> .c c
   | none=> .undef
def St.ev (st:St):Operand->V
 | .tmp t=>st.get t
 | .const v=>MV v
 | .func f=> .c (.fn f)
 | .global _=> .undef
def St.arg (st:St) (g:Bool) (x:Operand):Prop×V:=
 match st.ev x with
 | .g c v=>(g=true->c=true,v)
 | v=>(True,v)
theorem Q7 {w:World} {G:AG}: ∀ {v:Value} {c:C},CW v=some c->Ad w G c v:=by
 intro v c h;unfold CW at h;split at h<;>first | (cases h;done) | (injection h with h;subst h;simp [Ad];try rfl)
 ·exact⟨rfl,none,0,⟨rfl,rfl⟩,by grind⟩
theorem FN {w:World} {G:AG}: ∀ {vs:List Value} {cs:List C},D5 vs=some cs->Aj w G cs vs
 | [],cs,h=>by grind [D5,Aj]
 | v::vs,cs,h=>by
   unfold D5 at h;split at h
   ·rename_i c cs' h1 h2;injection h with h;subst h;simp only [Aj];exact⟨Q7 h1,FN h2⟩
   ·cases h
theorem iV {w:World} {G:AG} (v:Value):Ab w G (MV v) v:=by
 unfold MV;split
 ·split
  ·rename_i h;simp only [Ab];exact⟨_,rfl,FN h⟩
  ·simp only [Ab]
 grind [Ab,Q7]
theorem R.ev {F:Fr} {st:St} {a:Act} {w:World} {G:AG} (h:R F st a w G) (x:Operand):Ab w G (st.ev x) (a.eval x):=by
 cases x with
 | tmp t=>exact h.v_ t
 | const v=>exact iV v
 | func f=>simp [St.ev,Act.eval,Ab,Ad]
 | global g=>simp [St.ev,Ab]
theorem R.arg {F:Fr} {st:St} {a:Act} {w:World} {G:AG} (h:R F st a w G) {g:Bool} (hg:g=true) {x:Operand} (hs:(st.arg g x).1):Ab w G (st.arg g x).2 (a.eval x):=by
 have:=h.ev x;unfold St.arg at *;split at hs
 all_goals simp_all [Ab]
def K0 (P:Program) (t:TypeId):Option (Bool×Nat):=
 match P.underlying t,P.info? t with
 | some d,some i=>some (d.isRow,i.size)
 | _,_=>none
def Dk (P:Program) (t:TypeId):Option (TypeId×Nat):=
 match P.underlying t with
 | some (.slice e)=>match P.info? e with
   | some i=>some (e,i.size)
   | none=>none
 | _=>none
def Gx (P:Program) (t:TypeId):Option (Nat×TypeId×Nat):=
 match P.underlying t with
 | some (.array n e)=>match P.info? e with
   | some i=>some (n,e,i.size)
   | none=>none
 | _=>none
def xu (P:Program) (t:TypeId) (f:Nat):Option (Nat×Bool×Nat):=
 match P.underlying t with
 | some (.struct fs)=>match fs[f]? with
   | some x=>match K0 P x.type with
     | some (ag,n)=>some (x.offset,ag,n)
     | none=>none
   | none=>none
 | _=>none
def Eh (P:Program) (t:TypeId):Bool:=
 match P.underlying t with
 | some .string =>true
 | _=>false
theorem C7 {P:Program} {t:TypeId} {ag:Bool} {n:Nat} (h:K0 P t=some (ag,n)): ∃ d i,P.underlying t=some d/\d.isRow=ag/\P.info? t=some i/\i.size=n:=by grind [K0]
theorem DI {P:Program} {t e:TypeId} {n:Nat} (h:Dk P t=some (e,n)):P.underlying t=some (.slice e)/\ ∃ i,P.info? e=some i/\i.size=n:=by unfold Dk at h;grind
theorem MW {P:Program} {t e:TypeId} {k n:Nat} (h:Gx P t=some (k,e,n)):P.underlying t=some (.array k e)/\ ∃ i,P.info? e=some i/\i.size=n:=by unfold Gx at h;grind
structure C1 (w w':World):Prop where
 size:w.heap.size<=w'.heap.size
 block: ∀ b,b<w.heap.size->w'.heap[b]? =w.heap[b]?
theorem C1.refl (w:World):C1 w w:=⟨le_refl _,fun _ _=>rfl⟩
theorem C1.trans {a b c:World} (h:C1 a b) (k:C1 b c):C1 a c:=
 ⟨le_trans h.size k.size,fun x hx=>(k.block x (lt_of_lt_of_le hx h.size)).trans (h.block x hx)⟩
theorem C1.cell {w w':World} (h:C1 w w') {p:Addr} {v:Value} (hv:w.cell? p=some v):w'.cell? p=some v:=by have hb:p.block<w.heap.size:=World.block_lt_of_cell? w p hv;rw [World.cell?_of_block (h.block p.block hb)];exact hv
theorem C1.range {w w':World} (h:C1 w w') {b o:Nat} {vs:List Value} (hv:w.rangeAt b o vs):w'.rangeAt b o vs:=
 fun j v hj=>h.cell (hv j v hj)
def Aw.isM (e:Aw):Bool:=match e.row with
 | none=>iU e.cs
 | some _=>false
def St.look (st:St) (id:Ah):Option Aw:=st.so.find? (fun e=>e.id==id&& !(e.isM||Fh e.id))
def St.acS (st:St) (id:Ah):Option Aw:=st.so.find? (fun e=>e.id==id&& !e.isM)
theorem UO {st:St} {id:Ah} {e:Aw} (h:st.acS id=some e):e∈st.so/\e.id=id:=
 ⟨List.mem_of_find?_eq_some h,by have:=find?_some h;grind⟩
theorem xv {st:St} {id:Ah} {e:Aw} (h:st.acS id=some e) (hr:e.row=none):iU e.cs=false:=by have:=find?_some h;simp_all [Aw.isM]
theorem Bj {st:St} {id:Ah} {e:Aw} (h:st.look id=some e):e∈st.so/\e.id=id:=
 ⟨List.mem_of_find?_eq_some h,by have:=find?_some h;grind⟩
theorem Yq {st:St} {id:Ah} {e:Aw} (h:st.look id=some e) (hr:e.row=none):iU e.cs=false:=by have:=find?_some h;simp_all [Aw.isM]
theorem FG {st:St} {id:Ah} {e:Aw} (h:st.look id=some e):Fh id=false:=by have h1:=(Bj h).2;have:=find?_some h;grind
theorem Bc.row {w:World} {G:AG} {e:Aw} (h:Bc w G e) (hnm:e.row=none->iU e.cs=false) {b:Nat} (hb:G.m_ e.id=some b):
 ∃ cur T,w.heap[b]? =some (.cells cur T (0,0))/\e.cs.length<=cur.size/\An w G e.cs b 0:=by
 unfold Bc at h;split at h
 ·rename_i hrn;obtain⟨b',h1,hbx⟩:=h;obtain⟨T,cur,h2,h3,h4⟩:=hbx.cells (hnm hrn);grind
 ·obtain⟨hl,v,h1,h2 | ⟨b',cap,cur,e1,e2,e3,e4,e5,e6,e7⟩⟩:=h
  all_goals simp_all [Nat.mul_le_mul_right]
def toV (ag:Bool) (off n:Nat) (cs:List C):V:=if ag then .agg ((cs.drop off).take n)else .c (cs.getD off .any)
def DM (P:Program) (t:TypeId) (st:St):V->Prop×V
 | .c (.ptr id off)=>match K0 P t,st.acS id with
   | some (ag,n),some e=>(off+n<=e.cs.length/\(ag=true\/0<n),toV ag off n e.cs)
   | _,_=>(False, .undef)
 | .c (.abQ cs off)=>match K0 P t with
   | some (ag,n)=>(off+n<=cs.length/\(ag=true\/0<n),toV ag off n cs)
   | _=>(False, .undef)
 | _=>(False, .undef)
theorem DY {P:Program} {w:World} {b o:Nat} {ty:TypeId} {v:Value} {d:TypeDesc} (hu:P.underlying ty=some d) (hd:d.isRow=false) (hc:w.cell? ⟨b,o,none⟩=some v):
 (Instr.loadAt ty (.pointer (some ⟨b,o,none⟩))).run P w= .ok v w:=by
 have azT:(isAgg ty).run P w= .ok false w:=by unfold isAgg;rw [Sem.run_bind,run_underlying hu w];cases d<;>simp_all
 simp_all [Instr.loadAt,Instr.sureAddr,loadVar]
theorem YQ {P:Program} {w:World} {G:AG} {cs:List C} {b o off n:Nat} {ty:TypeId} {ag:Bool} (hr:An w G cs b o) (ht:K0 P ty=some (ag,n)) (hn:off+n<=cs.length) (h0:ag=true\/0<n):
 ∃ v,Ab w G (toV ag off n cs) v/\ ∀ w',C1 w w'->(Instr.loadAt ty (.pointer (some ⟨b,o+off,none⟩))).run P w'= .ok v w':=by
 obtain⟨d,i,hu,hd,hi,hsz⟩:=C7 ht;obtain⟨vs,h1,h2⟩:=hr.list;unfold toV;cases hag:ag with
 | true=>
   refine⟨.agg ((vs.drop off).take n).toArray,?_,fun w' hw'=>?_⟩
   ·exact⟨_,rfl,by simpa using (h1.drop off).take n⟩
   ·refine run_loadAt_mid w' b (o+off) ty ((vs.drop off).take n) d ?_ hu (by rw [hd,hag]) ?_
    ·intro j v hv;rw [List.getElem?_take]at hv;split at hv
     ·rw [List.getElem?_drop]at hv;have:=(hw'.range h2) _ v hv;grind
     ·cases hv
    ·simp [hi,hsz, <-h1.length];omega
 | false=>
   have IT:0<n:=by grind
   have hlt:off<cs.length:=by omega
   obtain⟨v,hv,hr'⟩:=h1.get off cs[off] (by simp [hlt]);refine⟨v,?_,fun w' hw'=>?_⟩
   ·grind [Ab]
   ·exact DY hu (by rw [hd,hag]) (by simpa using (hw'.range h2) off v hv)
theorem OI {P:Program} {F:Fr} {st:St} {a:Act} {w:World} {G:AG} (h:R F st a w G) {t:TypeId} {x:V} {u:Value} (hx:Ab w G x u) (hs:(DM P t st x).1):
 ∃ v,Ab w G (DM P t st x).2 v/\ ∀ w',C1 w w'->(Instr.loadAt t u).run P w'= .ok v w':=by
 unfold DM at *;split at hs
 ·rename_i id off;split at hs
  ·rename_i ag n e ht he;simp only [Ab,Ad]at hx;obtain⟨b,hb,rfl⟩:=hx;obtain⟨hm,hid⟩:=UO he;obtain⟨cur,T,_,_,z_⟩:=(h.store e hm).row (xv he) (by rw [hid];exact hb);grind [YQ]
  grind
 ·rename_i cs off;split at hs
  ·rename_i ag n ht;simp only [Ab,Ad]at hx;obtain⟨_,b,o,rfl,_,_,z_⟩:=hx;grind [YQ]
  grind
 grind
end Go.PL
namespace Go.PL
open Go Go.RowKit
def YR (P:Program) (t:TypeId):Bool:=
 match P.underlying t with
 | some .bool =>true
 | _=>false
def Fn (k:IntKind) (a b:Int):Int:=k.wrap (BitVec.ofInt k.bits a&&& BitVec.ofInt k.bits b).toNat
def bOr (k:IntKind) (a b:Int):Int:=k.wrap (BitVec.ofInt k.bits a||| BitVec.ofInt k.bits b).toNat
def LH (k:IntKind) (a b:Int):Int:=k.wrap (BitVec.ofInt k.bits a ^^^ BitVec.ofInt k.bits b).toNat
def iW (k:IntKind) (a b:Int):Int:=k.wrap (BitVec.ofInt k.bits a&&& ~~~ BitVec.ofInt k.bits b).toNat
def K1 (op:BinOp) (k:IntKind) (a b:Int):Prop×C:=
 match op with
 | .add =>(True, .int k (k.wrap (a+b)))
 | .sub =>(True, .int k (k.wrap (a - b)))
 | .mul =>(True, .int k (k.wrap (a*b)))
 | .quo =>(b ≠ 0, .int k (k.wrap (a.tdiv b)))
 | .rem =>(b ≠ 0, .int k (a.tmod b))
 | .and =>(True, .int k (Fn k a b))
 | .or =>(True, .int k (bOr k a b))
 | .xor =>(True, .int k (LH k a b))
 | .andNot =>(True, .int k (iW k a b))
 | .shl =>(0<=b, .int k (k.wrap (a*2 ^ (min b.toNat k.bits))))
 | .shr =>(0<=b, .int k (a.fdiv (2 ^ (min b.toNat k.bits))))
 | .eql =>(True, .bool (a==b))
 | .neq =>(True, .bool (a != b))
 | .lss =>(True, .bool (decide (a<b)))
 | .leq =>(True, .bool (decide (a<=b)))
 | .gtr =>(True, .bool (decide (b<a)))
 | .geq =>(True, .bool (decide (b<=a)))
def L7 (op:BinOp) (a b:List UInt8):Prop×C:=
 match op with
 | .add =>(a.length+b.length<=maxLen, .str (a++b))
 | .eql =>(True, .bool (a==b))
 | .neq =>(True, .bool (a != b))
 | .lss =>(True, .bool (Op.bytesLess a b))
 | .leq =>(True, .bool (Op.bytesLess a b||a==b))
 | .gtr =>(True, .bool (!(Op.bytesLess a b||a==b)))
 | .geq =>(True, .bool (!Op.bytesLess a b))
 | _=>(False, .any)
def L8 (op:BinOp) (k k':IntKind):Prop:=
 match op with
 | .shl | .shr =>True
 | _=>k=k'
def K2 (P:Program) (t:TypeId):Bool:=
 match P.underlying t with
 | some (.interface _)=>true
 | _=>false
def L9 (P:Program) (t:TypeId):Bool:=
 match P.underlying t with
 | some (.pointer _)=>true
 | _=>false
def OJ (op:BinOp) (b:Bool) (s:Prop):Prop×V:=
 match op with
 | .eql =>(s, .c (.bool b))
 | .neq =>(s, .c (.bool !b))
 | _=>(False, .undef)
def BL:Operand->Bool
 | .const _=>true
 | _=>false
def XM (P:Program) (op:BinOp) (t:TypeId) (k:Bool):V->V->Prop×V
 | .c (.int k a), .c (.int k' b)=>(L8 op k k'/\(K1 op k a b).1, .c (K1 op k a b).2)
 | .c (.str a), .c (.str b)=>((L7 op a b).1, .c (L7 op a b).2)
 | .c (.bool a), .c (.bool b)=>match op with
   | .eql =>(YR P t=true, .c (.bool (a==b)))
   | .neq =>(YR P t=true, .c (.bool (a != b)))
   | _=>(False, .undef)
 | .c .aak, .c .aak =>OJ op true (k=true/\K2 P t=true)
 | .c .held, .c .aak =>OJ op false (K2 P t=true)
 | .c (.ptr _ _), .c .acu =>OJ op false (L9 P t=true)
 | .c (.abQ _ _), .c .acu =>OJ op false (L9 P t=true)
 | .c .acu, .c .acu =>OJ op true (L9 P t=true)
 | _,_=>(False, .undef)
theorem So {P:Program} {t:TypeId} (h:K2 P t=true): ∃ ms,P.underlying t=some (.interface ms):=by grind [K2]
theorem Q8 {P:Program} {t:TypeId} (h:L9 P t=true): ∃ e,P.underlying t=some (.pointer e):=by grind [L9]
theorem Wx {P:Program} {t:TypeId} (h:YR P t=true):P.underlying t=some .bool :=by grind [YR]
theorem JR {P:Program} {t:TypeId} (h:Eh P t=true):P.underlying t=some .string :=by grind [Eh]
theorem qi (a:List UInt8):(⟨a.toArray⟩:ByteArray).size =a.length:=by simp [ByteArray.size]
def Jc:C->Value
 | .int k n=> .int k n
 | .bool b=> .bool b
 | .str s=> .string ⟨s.toArray⟩
 | .acu => .pointer none
 | .aak => .nilIface
 | .fn f=> .func (.func f) #[] #[]
 | _=>Go.undef
def C.flat:C->Bool
 | .int .. | .bool _ | .str _ | .acu | .aak | .fn _=>true
 | _=>false
theorem AU {w:World} {G:AG} {c:C} (hc:c.flat=true) {v:Value}:Ad w G c v↔v=Jc c:=by cases c<;>simp_all [C.flat,Ad,Jc]
theorem fp {P:Program} {op:BinOp} {t:TypeId} {k k':IntKind} {x y:Int} {ox oy:Operand} (h1:L8 op k k') (h2:(K1 op k x y).1) (w:World):
 (do eqGuard op t ox oy (.int k x) (.int k' y);binOp op t (.int k x) (.int k' y)).run P w= .ok (Jc (K1 op k x y).2) w/\(K1 op k x y).2.flat =true:=by
 refine⟨?_,by cases op<;>rfl⟩;cases op<;>simp only [L8,K1]at h1 h2<;>(try subst h1)<;>simp only [K1,Jc]<;>
  first
   | (simp [eqGuard,binOp,Op.intArith,Op.intDiv,Op.intBits,Op.intCmp,h2,Fn,bOr,LH,iW];done)
   | (have h3: ¬y<0:=by omega
      simp [eqGuard,binOp,Op.shift,h3])
theorem fq {P:Program} {op:BinOp} {t:TypeId} {x y:List UInt8} {ox oy:Operand} (h2:(L7 op x y).1) (w:World):
 (do eqGuard op t ox oy (.string ⟨x.toArray⟩) (.string ⟨y.toArray⟩);binOp op t (.string ⟨x.toArray⟩) (.string ⟨y.toArray⟩)).run P w= .ok (Jc (L7 op x y).2) w/\(L7 op x y).2.flat =true:=by
 cases op<;>simp only [L7]at h2<;>refine⟨?_,rfl⟩<;>simp only [L7,Jc]
 case add=>
  have h3: ¬((x.length+y.length:Nat):Int)>IntKind.i64.max:=by
   have:IntKind.i64.max=9223372036854775807:=by decide
   grind [maxLen]
  simp only [eqGuard,binOp,Op.stringOp,qi];rw [if_neg h3];have e:(⟨x.toArray⟩++⟨y.toArray⟩:ByteArray)=⟨(x++y).toArray⟩:=by apply ByteArray.ext;simp
  simp [e]
 all_goals simp_all [eqGuard,binOp,Op.stringOp,bne]
theorem Ie {P:Program} {op:BinOp} {t:TypeId} {u v:Value} {b:Bool} {s:Prop} {w:World} {G:AG} {ox oy:Operand} (hs:(OJ op b s).1) (ar5:(∀ k a,u ≠ .int k a)/\(∀ k a,u ≠ .float k a)/\(∀ k a c,u ≠ .complex k a c)/\(∀ a,u ≠ .string a))
 (hg:s-> ∀ w',(eqGuard op t ox oy u v).run P w'= .ok () w') (he:s-> ∀ w',(Op.equal t u v).run P w'= .ok b w'):
 ∃ r,Ab w G (OJ op b s).2 r/\ ∀ w',(do eqGuard op t ox oy u v;binOp op t u v).run P w'= .ok r w':=by
 unfold OJ at *;obtain⟨h1,h2,h3,h4⟩:=ar5;split at hs
 ·refine⟨.bool b,(AU rfl).2 rfl,fun w'=>?_⟩;simp_all [binOp]
 ·refine⟨.bool !b,(AU rfl).2 rfl,fun w'=>?_⟩;simp_all [binOp]
 grind
theorem vf {P:Program} (d:Nat) {t u:TypeId} {x:Value} {ms:Array (String×TypeId)} (h:P.underlying t=some (.interface ms)) (w:World):(Op.equalIn (d+1) t (.iface u x) .nilIface).run P w= .ok false w:=by simp [Op.equalIn,run_underlying h]
theorem Abb {P:Program} (d:Nat) {t:TypeId} {ms:Array (String×TypeId)} (h:P.underlying t=some (.interface ms)) (w:World):(Op.equalIn (d+1) t .nilIface .nilIface).run P w= .ok true w:=by simp [Op.equalIn,run_underlying h]
theorem Abc {P:Program} (d:Nat) {t e:TypeId} {a:Addr} (h:P.underlying t=some (.pointer e)) (w:World):(Op.equalIn (d+1) t (.pointer (some a)) (.pointer none)).run P w= .ok false w:=by simp [Op.equalIn,run_underlying h]
theorem Abd {P:Program} (d:Nat) {t e:TypeId} (h:P.underlying t=some (.pointer e)) (w:World):(Op.equalIn (d+1) t (.pointer none) (.pointer none)).run P w= .ok true w:=by simp [Op.equalIn,run_underlying h]
theorem YS {P:Program} {t u:TypeId} {x:Value} {ms:Array (String×TypeId)} (h:P.underlying t=some (.interface ms)) (w:World):(Op.equal t (.iface u x) .nilIface).run P w= .ok false w:=vf 9999 h w
theorem iX {P:Program} {t:TypeId} {ms:Array (String×TypeId)} (h:P.underlying t=some (.interface ms)) (w:World):(Op.equal t .nilIface .nilIface).run P w= .ok true w:=Abb 9999 h w
theorem Sq {P:Program} {t e:TypeId} {a:Addr} (h:P.underlying t=some (.pointer e)) (w:World):(Op.equal t (.pointer (some a)) (.pointer none)).run P w= .ok false w:=Abc 9999 h w
theorem iY {P:Program} {t e:TypeId} (h:P.underlying t=some (.pointer e)) (w:World):(Op.equal t (.pointer none) (.pointer none)).run P w= .ok true w:=Abd 9999 h w
theorem qj {P:Program} {op:BinOp} {t:TypeId} {x y:V} {u v:Value} {w:World} {G:AG} {ox oy:Operand} (hx:Ab w G x u) (hy:Ab w G y v) (hs:(XM P op t (BL ox||BL oy) x y).1):
 ∃ r,Ab w G (XM P op t (BL ox||BL oy) x y).2 r/\ ∀ w',(do eqGuard op t ox oy u v;binOp op t u v).run P w'= .ok r w':=by
 unfold XM at *;split at hs
 ·simp only [Ab,Ad]at hx hy;subst hx hy;exact⟨_,by simp only [Ab];exact(AU (fp (P:=P) (t:=t) (ox:=ox) (oy:=oy) hs.1 hs.2 w).2).2 rfl,fun w'=>(fp hs.1 hs.2 w').1⟩
 ·simp only [Ab,Ad]at hx hy;subst hx hy;exact⟨_,by simp only [Ab];exact(AU (fq (P:=P) (t:=t) (ox:=ox) (oy:=oy) hs w).2).2 rfl,fun w'=>(fq hs w').1⟩
 ·simp only [Ab,Ad]at hx hy;subst hx hy;split at hs
  ·exact⟨_,(AU rfl).2 rfl,(by grind [eqGuard,run_eql_bool,Wx,Jc])⟩
  ·exact⟨_,(AU rfl).2 rfl,(by grind [eqGuard,run_neq_bool,Wx,Jc])⟩
  grind
 ·simp only [Ab,Ad]at hx hy;subst hx hy;refine Ie hs (by simp) (fun q w'=>?_) (fun q w'=>?_)
  ·have hk:=q.1;cases ox<;>cases oy<;>simp_all [BL,eqGuard]<;>(try (split<;>rfl))
  grind [So,iX]
 ·simp only [Ab,Ad]at hx hy;obtain⟨t',x',rfl⟩:=hx;subst hy;refine Ie hs (by simp) (fun q w'=>?_) (fun q w'=>?_)
  ·simp_all [eqGuard]
  grind [So,YS]
 ·simp only [Ab,Ad]at hx hy;obtain⟨b,_,rfl⟩:=hx;subst hy;refine Ie hs (by simp) (fun q w'=>?_) (fun q w'=>?_)
  ·simp_all [eqGuard]
  grind [Q8,Sq]
 ·simp only [Ab,Ad]at hx hy;obtain⟨_,b,o,rfl,_⟩:=hx;subst hy;refine Ie hs (by simp) (fun q w'=>?_) (fun q w'=>?_)
  ·simp_all [eqGuard]
  grind [Q8,Sq]
 ·simp only [Ab,Ad]at hx hy;subst hx hy;refine Ie hs (by simp) (fun q w'=>?_) (fun q w'=>?_)
  ·simp_all [eqGuard]
  grind [Q8,iY]
 grind
end Go.PL
namespace Go.PL
open Go Go.RowKit
abbrev no:Prop×V:=(False, .undef)
def unV (op:UnOp):V->Prop×V
 | .c (.int k n)=>match op with
   | .neg =>(True, .c (.int k (k.wrap (0 - n))))
   | .xor =>(True, .c (.int k (LH k (if k.signed then -1 else k.max) n)))
   | _=>no
 | .c (.bool b)=>match op with
   | .not =>(True, .c (.bool !b))
   | _=>no
 | _=>no
theorem ft {P:Program} {op:UnOp} {x:V} {u:Value} {w:World} {G:AG} (hx:Ab w G x u) (hs:(unV op x).1):
 ∃ r,Ab w G (unV op x).2 r/\ ∀ w',(Op.unary op u).run P w'= .ok r w':=by
 unfold unV at *;split at hs
 ·simp only [Ab,Ad]at hx;subst hx;split at hs
  ·exact⟨_,(AU rfl).2 rfl,(by simp_all [Op.unary,Op.intArith,Jc])⟩
  ·exact⟨_,(AU rfl).2 rfl,(by simp_all [Op.unary,Op.intBits,Jc,LH])⟩
  grind
 ·simp only [Ab,Ad]at hx;subst hx;split at hs
  ·exact⟨_,(AU rfl).2 rfl,fun w'=>by simp [Op.unary,Jc]⟩
  grind
 grind
def ma (P:Program) (t:TypeId):Option IntKind:=
 match P.underlying t with
 | some (.int k)=>some k
 | _=>none
theorem qk {P:Program} {t:TypeId} {k:IntKind} (h:ma P t=some k):P.underlying t=some (.int k):=by grind [ma]
def Abe (P:Program) (t:TypeId):Bool:=(P.underlying t).isSome
def bytesOf:List C->Option (List UInt8)
 | []=>some []
 | .int .u8 n::cs=>match bytesOf cs with
   | some bs=>if 0<=n/\n<256 then some (UInt8.ofNat n.toNat::bs)else none
   | none=>none
 | _=>none
def MX:List C->List UInt8
 | []=>[]
 | .int _ n::cs=>UInt8.ofNat n.toNat::MX cs
 | _::cs=>MX cs
def K3:List C->Prop
 | []=>True
 | .int .u8 n::cs=>(0<=n/\n<256)/\K3 cs
 | _=>False
theorem YT: ∀ {cs:List C},K3 cs->bytesOf cs=some (MX cs)
 | [],_=>rfl
 | c::cs,h=>by
   unfold K3 at h;split at h
   ·cases ‹_=([]:List C)›
   ·rename_i n cs' he;injection he with h1 h2;subst h1 h2;simp [bytesOf,YT h.2,h.1,MX]
   ·exact h.elim
def If (P:Program) (t:TypeId):Bool:=
 match P.underlying t with
 | some (.slice e)=>match P.underlying e with
   | some (.int .u8)=>true
   | _=>false
 | _=>false
def K4 (P:Program) (src dst:TypeId) (st:St):V->Prop×V
 | .c (.int _ n)=>match ma P dst with
   | some k=>(Abe P src=true, .c (.int k (k.wrap n)))
   | none=>no
 | .c (.str s)=>(Eh P src=true/\Eh P dst=true, .c (.str s))
 | .c (.e_ id)=>match st.look id with
   | some e=>match e.row with
     | some (_,n,_)=>((If P src=true/\Eh P dst=true)/\n=1/\K3 e.cs, .c (.str (MX e.cs)))
     | _=>no
   | none=>no
 | _=>no
theorem UP {P:Program} {t:TypeId} (h:If P t=true): ∃ e,P.underlying t=some (.slice e)/\P.underlying e=some (.int .u8):=by grind [If]
theorem Sr {w:World} {G:AG}: ∀ {cs:List C} {bs:List UInt8} {vs:List Value},bytesOf cs=some bs->Aj w G cs vs->vs=bs.map (fun b=>Value.int .u8 b.toNat)
 | [],bs,vs,h,hr=>by simp [bytesOf]at h;subst h;cases vs<;>simp_all [Aj]
 | c::cs,bs,vs,h,hr=>by
   cases vs with
   | nil=>simp [Aj]at hr
   | cons v vs=>
     simp only [Aj]at hr;unfold bytesOf at h;split at h
     ·grind
     ·rename_i n cs' he;injection he with h1 h2;subst h1 h2;split at h
      ·rename_i bs' hb;split at h
       ·rename_i hn;injection h with h;subst h;have:=Sr hb hr.2;simp only [Ad]at hr;rw [hr.1,this];simp only [map_cons,List.cons.injEq,and_true,Value.int.injEq,true_and];have:(UInt8.ofNat n.toNat).toNat =n.toNat:=by simp;omega
        grind
       ·cases h
      ·cases h
     ·cases h
theorem mb {P:Program} {F:Fr} {st:St} {a:Act} {w:World} {G:AG} (h:R F st a w G) {src dst:TypeId} {x:V} {u:Value} (hx:Ab w G x u) (hs:(K4 P src dst st x).1):
 ∃ r,Ab w G (K4 P src dst st x).2 r/\ ∀ w',C1 w w'->(convert src dst u).run P w'= .ok r w':=by
 unfold K4 at *;split at hs
 ·simp only [Ab,Ad]at hx;subst hx;split at hs
  ·rename_i k hk;unfold Abe at hs;cases hu:P.underlying src with
   | none=>grind
   | some d=>exact⟨_,(AU rfl).2 rfl,(by simp_all [convert,run_underlying,qk,Conv.intToInt,Jc])⟩
  grind
 ·simp only [Ab,Ad]at hx;subst hx;exact⟨_,(AU rfl).2 rfl,(by simp_all [convert,run_underlying,JR,Jc])⟩
 ·rename_i id;split at hs
  ·rename_i e he;split at hs
   ·rename_i E n len z_;obtain⟨hs,rfl,hbs⟩:=hs;have hb:=YT hbs;generalize MX e.cs=bs at *;obtain⟨t,hs1,hs2⟩:=UP hs.1;have hd:=JR hs.2;obtain⟨hm,hid⟩:=Bj he;have hE:=h.store e hm;unfold Bc at hE;rw [z_]at hE;obtain⟨hl,v,aam,ame⟩:=hE;simp only [Ab,Ad]at hx;rw [hid]at aam;rw [aam]at hx;obtain⟨hx,_⟩:=hx;injection hx with hx;subst hx;refine⟨.string ⟨bs.toArray⟩,(AU rfl).2 rfl,fun w' hw'=>?_⟩;rcases ame with ⟨p,rfl,h0,_⟩ | ⟨b,cap,cur,rfl,_,_,_,_,_,hr⟩
    ·have:e.cs=[]:=by grind
     rw [this]at hb;simp [bytesOf]at hb;subst hb;cases p with
     | none=>exact run_convert_bytes_nil w' src t hs1 hs2 0 0 dst hd
     | some p=>exact run_convert_bytes_back w' src dst t p 0 [] hs1 hs2 hd (fun j hj=>by simp at hj)
    ·obtain⟨vs,h1,h2⟩:=hr.list;have hv:=Sr hb h1;have hlen:bs.length=len:=by have:=h1.length;grind
     rw [<-hlen];refine run_convert_bytes_back w' src dst t ⟨b,0,none⟩ cap bs hs1 hs2 hd ?_;intro j hj;rw [Addr.add_mid];simpa using hw'.range h2 j (.int .u8 bs[j].toNat) (by grind)
   grind
  grind
 grind
theorem mc {P:Program} {t:TypeId} {f o n:Nat} {ag:Bool} (h:xu P t f=some (o,ag,n)):
 ∃ fs x,P.underlying t=some (.struct fs)/\fs[f]? =some x/\x.offset=o/\K0 P x.type=some (ag,n):=by
 unfold xu at h;grind
def B2 (P:Program) (s:TypeId) (f:Nat):V->Prop×V
 | .c (.ptr id off)=>match xu P s f with
   | some (o,_,n)=>(0<n, .c (.ptr id (off+o)))
   | none=>no
 | .c (.abQ cs off)=>match xu P s f with
   | some (o,_,n)=>(0<n, .c (.abQ cs (off+o)))
   | none=>no
 | _=>no
theorem agx {P:Program} {s:TypeId} {f o n:Nat} {ag:Bool} (h:xu P s f=some (o,ag,n)) (hn:0<n) (b off:Nat) (w:World):
 (Instr.fieldAt s (.pointer (some ⟨b,off,none⟩)) f).run P w= .ok (.pointer (some ⟨b,off+o,none⟩)) w:=by
 obtain⟨fs,x,h1,h2,h3,h4⟩:=mc h;obtain⟨d,i,hu,_,hi,hsz⟩:=C7 h4;simp only [Instr.fieldAt,Sem.run_bind,run_underlying h1,Result.andThen_ok,h2,Instr.sureAddr,Sem.run_pure,fieldPlace,sizeOf,typeInfo];have: ¬i.size=0:=by omega
 simp_all [Addr.add_mid]
theorem Ma {P:Program} {s:TypeId} {f:Nat} {x:V} {u:Value} {w:World} {G:AG} (hx:Ab w G x u) (hs:(B2 P s f x).1):
 ∃ r,Ab w G (B2 P s f x).2 r/\ ∀ w',(Instr.fieldAt s u f).run P w'= .ok r w':=by
 unfold B2 at *;split at hs
 ·split at hs
  ·rename_i o ag n hf;simp only [Ab,Ad]at hx ⊢;obtain⟨b,hb,rfl⟩:=hx;exact⟨_,⟨b,hb,rfl⟩,fun w'=>agx hf hs b _ w'⟩
  grind
 ·split at hs
  ·rename_i o ag n hf;simp only [Ab,Ad]at hx ⊢;obtain⟨hp,b,o',rfl,h1,h2,h3⟩:=hx;exact⟨_,⟨hp,b,o',rfl,h1,h2,h3⟩,fun w'=>by rw [agx hf hs b _ w',Nat.add_assoc]⟩
  grind
 grind
theorem acY {P:Program} {t:TypeId} {ag:Bool} {n:Nat} (ht:K0 P t=some (ag,n)) {w:World} {G:AG} {cs:List C} {arr:Array Value} (h:Aj w G cs arr.toList) {off:Nat} (hb:off+n<=cs.length) (h0:ag=true\/0<n):
 ∃ r,Ab w G (toV ag off n cs) r/\ ∀ w',(part t arr off).run P w'= .ok r w':=by
 obtain⟨d,i,hu,hd,hi,hsz⟩:=C7 ht;have azT: ∀ w',(isAgg t).run P w'= .ok ag w':=by intro w';unfold isAgg;rw [Sem.run_bind,run_underlying hu w'];cases d<;>simp_all
 have hlen:=h.length;unfold toV;cases hag:ag with
 | true=>
   refine⟨.agg (arr.extract off (off+n)),⟨_,rfl,?_⟩,fun w'=>?_⟩
   ·have:=(h.drop off).take n;simp_all
   simp_all [part,sizeOf,typeInfo]
 | false=>
   have IT:0<n:=by grind
   have hlt:off<cs.length:=by omega
   obtain⟨v,hv,hr⟩:=h.get off cs[off] (by simp [hlt]);refine⟨v,by grind [Ab],fun w'=>?_⟩;simp_all [part]
def JS (P:Program) (t:TypeId) (f:Nat):V->Prop×V
 | .agg cs=>match xu P t f with
   | some (o,ag,n)=>(o+n<=cs.length/\(ag=true\/0<n),toV ag o n cs)
   | none=>no
 | _=>no
theorem iZ {P:Program} {t:TypeId} {f:Nat} {x:V} {u:Value} {w:World} {G:AG} (hx:Ab w G x u) (hs:(JS P t f x).1):
 ∃ r,Ab w G (JS P t f x).2 r/\ ∀ w',(Instr.field t u f).run P w'= .ok r w':=by
 unfold JS at *;split at hs
 ·split at hs
  ·rename_i o ag n hf;simp only [Ab]at hx;obtain⟨arr,rfl,hr⟩:=hx;obtain⟨fs,y,h1,h2,h3,h4⟩:=mc hf;simp_all [acY,Instr.field,run_underlying,asAgg]
  grind
 grind
def Ch (P:Program) (t:TypeId) (st:St) (x y:V):Prop×V:=
 match y with
 | .c (.int _ i)=>match x with
   | .c (.sl len cs)=>match Dk P t with
     | some (_,n)=>(0<=i/\i<len, .c (.abQ cs (i.toNat*n)))
     | none=>no
   | .c (.e_ id)=>match Dk P t,st.acS id with
     | some (_,n),some e=>match e.row with
       | some (_,_,len)=>(0<=i/\i<len, .c (.ptr id (i.toNat*n)))
       | none=>no
     | _,_=>no
   | .c (.bsl id off len)=>match Dk P t with
     | some (_,n)=>(0<=i/\i<len, .c (.ptr id (off+i.toNat*n)))
     | none=>no
   | .c (.ptr id off)=>match Gx P t with
     | some (k,_,n)=>(0<=i/\i<k, .c (.ptr id (off+i.toNat*n)))
     | none=>no
   | .c (.abQ cs off)=>match Gx P t with
     | some (k,_,n)=>(0<=i/\i<k, .c (.abQ cs (off+i.toNat*n)))
     | none=>no
   | _=>no
 | _=>no
theorem Ei {P:Program} {t e:TypeId} {n:Nat} (h:Dk P t=some (e,n)) (b o len cap:Nat) (k:IntKind) (i:Int) (h0:0<=i) (h1:i<len) (w:World):
 (Instr.indexAt t (.slice (some ⟨b,o,none⟩) len cap) (.int k i)).run P w= .ok (.pointer (some ⟨b,o+i.toNat*n,none⟩)) w:=by
 obtain⟨hu,inf,hi,hsz⟩:=DI h;simp [Instr.indexAt,asIntOf,Sem.run_bind,run_underlying hu,h0,h1,sizeOf,typeInfo,program,Sem.run,hi,hsz,Addr.add_mid]
theorem JT {P:Program} {t e:TypeId} {m n:Nat} (h:Gx P t=some (m,e,n)) (b o:Nat) (k:IntKind) (i:Int) (h0:0<=i) (h1:i<m) (w:World):
 (Instr.indexAt t (.pointer (some ⟨b,o,none⟩)) (.int k i)).run P w= .ok (.pointer (some ⟨b,o+i.toNat*n,none⟩)) w:=by
 obtain⟨hu,inf,hi,hsz⟩:=MW h;simp [Instr.indexAt,asIntOf,Sem.run_bind,run_underlying hu,h0,h1,sizeOf,typeInfo,program,Sem.run,hi,hsz,Addr.add_mid,Instr.sureAddr]
theorem Mb {P:Program} {F:Fr} {st:St} {a:Act} {w:World} {G:AG} (h:R F st a w G) {t:TypeId} {x y:V} {u v:Value} (hx:Ab w G x u) (hy:Ab w G y v) (hs:(Ch P t st x y).1):
 ∃ r,Ab w G (Ch P t st x y).2 r/\ ∀ w',(Instr.indexAt t u v).run P w'= .ok r w':=by
 unfold Ch at *;split at hs
 ·rename_i k i;simp only [Ab,Ad]at hy;subst hy;split at hs
  ·split at hs
   ·rename_i len cs e n hse;simp only [Ab,Ad]at hx ⊢;obtain⟨hp,ad,cap,rfl,_,_,_,h0 | ⟨b,o,rfl,h1,h2,h3⟩⟩:=hx
    ·omega
    ·exact⟨_,⟨hp,b,o,rfl,h1,h2,h3⟩,(by grind [Ei])⟩
   grind
  ·rename_i id;split at hs
   ·rename_i e n en hse hlk;split at hs
    ·rename_i E n' len z_;obtain⟨hm,hid⟩:=UO hlk;have hE:=h.store en hm;unfold Bc at hE;rw [z_]at hE;obtain⟨hl,v,aam,ame⟩:=hE;simp only [Ab,Ad]at hx ⊢;rw [hid]at aam;rw [aam]at hx;obtain⟨hx,_⟩:=hx;injection hx with hx;subst hx;rcases ame with ⟨_,h0,_⟩ | ⟨b,cap,cur,rfl,hb,_⟩
     ·omega
     ·refine⟨_,⟨b,by rw [<-hid];exact hb,rfl⟩,fun w'=>?_⟩;simpa using Ei hse b 0 len cap k i hs.1 hs.2 w'
    grind
   grind
  ·rename_i id off len;split at hs
   ·rename_i e n hse;simp only [Ab,Ad]at hx ⊢;obtain⟨b,cap,o,hb,rfl,hc,_,ho⟩:=hx;have ho:o=off:=(by grind);subst ho;exact⟨_,⟨b,hb,rfl⟩,(by grind [Ei])⟩
   grind
  ·split at hs
   ·rename_i m e n hae;simp only [Ab,Ad]at hx ⊢;obtain⟨b,hb,rfl⟩:=hx;exact⟨_,⟨b,hb,rfl⟩,(by grind [JT])⟩
   grind
  ·split at hs
   ·rename_i m e n hae;simp only [Ab,Ad]at hx ⊢;obtain⟨hp,b,o,rfl,h1,h2,h3⟩:=hx;exact⟨_,⟨hp,b,o,rfl,h1,h2,h3⟩,(by grind [JT])⟩
   grind
  grind
 grind
def IM (P:Program) (t:TypeId) (x y:V):Prop×V:=
 match y with
 | .c (.int _ i)=>match x with
   | .c (.str s)=>(Eh P t=true/\0<=i/\i<s.length, .c (.int .u8 (s.getD i.toNat 0).toNat))
   | .agg cs=>match Gx P t with
     | some (k,e,n)=>match K0 P e with
       | some (ag,_)=>(0<=i/\i<k/\i.toNat*n+n<=cs.length/\0<n,toV ag (i.toNat*n) n cs)
       | none=>no
     | none=>no
   | _=>no
 | _=>no
theorem i6 {P:Program} {t:TypeId} {x y:V} {u v:Value} {w:World} {G:AG} (hx:Ab w G x u) (hy:Ab w G y v) (hs:(IM P t x y).1):
 ∃ r,Ab w G (IM P t x y).2 r/\ ∀ w',(Instr.index t u v).run P w'= .ok r w':=by
 unfold IM at *;split at hs
 ·rename_i k i;simp only [Ab,Ad]at hy;subst hy;split at hs
  ·simp only [Ab,Ad]at hx;subst hx;obtain⟨h1,h2,h3⟩:=hs;rename_i s;refine⟨_,(AU rfl).2 rfl,fun w'=>?_⟩;have hlt:i.toNat<s.length:=by omega
   have hg:(⟨s.toArray⟩:ByteArray)[i.toNat]? =some s[i.toNat]:=by rw [getElem?_pos _ _ (by simpa [ByteArray.size] using hlt)];rfl
   simp_all [Instr.index,asIntOf,run_underlying,JR,Jc]
  ·split at hs
   ·rename_i m e n hae;split at hs
    ·rename_i ag n' hts;obtain⟨hu,inf,hi,hsz⟩:=MW hae;obtain⟨d,aGn,hu',hd,hi',aGE⟩:=C7 hts;rw [hi]at hi';injection hi' with hi';subst hi';have hnn:n'=n:=by omega
     subst hnn;simp only [Ab]at hx;obtain⟨arr,rfl,hr⟩:=hx;obtain⟨r,q1,q2⟩:=acY hts hr hs.2.2.1 (.inr hs.2.2.2);simp_all [Instr.index,asIntOf,run_underlying,sizeOf,typeInfo]
    grind
   grind
  grind
 grind
end Go.PL
namespace Go.PL
open Go Go.RowKit
def df (len:Nat) (lo hi:Option V):Option (Int×Int):=
 match lo,hi with
 | none,none=>some (0,len)
 | some (.c (.int _ l)),none=>some (l,len)
 | none,some (.c (.int _ h))=>some (0,h)
 | some (.c (.int _ l)),some (.c (.int _ h))=>some (l,h)
 | _,_=>none
def Hi (P:Program) (t:TypeId) (x:V) (lo hi:Option V):Prop×V:=
 match x with
 | .c (.str s)=>match df s.length lo hi with
   | some (l,h)=>(Eh P t=true/\0<=l/\l<=h/\h<=s.length, .c (.str ((s.drop l.toNat).take (h.toNat - l.toNat))))
   | none=>no
 | .c (.sl len cs)=>match Dk P t,df len lo hi with
   | some (_,n),some (l,h)=>(0<=l/\l<=h/\h<=len/\cs.length=len*n, .c (.sl (h.toNat - l.toNat) ((cs.drop (l.toNat*n)).take ((h.toNat - l.toNat)*n))))
   | _,_=>no
 | .c (.ptr id off)=>match Gx P t,df (match Gx P t with
  | some (k,_,_)=>k
  | none=>0) lo hi with
  | some (k,_,n),some (l,h)=>(0<=l/\l<k/\l<=h/\h<=k, .c (.bsl id (off+l.toNat*n) (h.toNat - l.toNat)))
  | _,_=>no
 | _=>no
def JU (w:World) (G:AG):Option V->Option Value->Prop
 | none,none=>True
 | some x,some v=>Ab w G x v
 | _,_=>False
theorem Tc {P:Program} (w:World) (k:IntKind) (i:Int) (y:Nat) (code:BoundsCode) (h0:0<=i) (h1:i<=y):
 (Instr.sliceBound (.int k i) y code).run P w= .ok i.toNat w:=by
 simp_all [Instr.sliceBound,asIntOf]
theorem YU {P:Program} {w:World} {G:AG} {len cap:Nat} {lo hi:Option V} {lv hv:Option Value} {l h:Int} (sl:Bool) (hb:df len lo hi=some (l,h)) (h1:JU w G lo lv) (h2:JU w G hi hv)
 (q1:0<=l) (q2:l<=h) (q3:h<=len) (q4:len<=cap): ∀ w',(Instr.sliceBounds sl len cap lv hv none).run P w'= .ok (l.toNat,h.toNat,cap) w':=by
 intro w';unfold df at hb;split at hb
 ·simp only [injEq,Prod.mk.injEq]at hb;obtain⟨rfl,rfl⟩:=hb;cases lv<;>cases hv<;>simp only [JU]at h1 h2;simp [Instr.sliceBounds]
 ·rename_i k1 l1;simp only [injEq,Prod.mk.injEq]at hb;obtain⟨rfl,rfl⟩:=hb;cases lv<;>cases hv<;>simp only [JU,Ab,Ad]at h1 h2;simp_all [Tc,Instr.sliceBounds]
 ·rename_i k2 l2;simp only [injEq,Prod.mk.injEq]at hb;obtain⟨rfl,rfl⟩:=hb;cases lv<;>cases hv<;>simp only [JU,Ab,Ad]at h1 h2;subst h2;have e2:=fun code=>Tc (P:=P) w' k2 l2 cap code (by omega) (by omega);simp [Instr.sliceBounds,e2]
 ·rename_i k1 l1 k2 l2;simp only [injEq,Prod.mk.injEq]at hb;obtain⟨rfl,rfl⟩:=hb;cases lv<;>cases hv<;>simp only [JU,Ab,Ad]at h1 h2;subst h1 h2;have e1:=fun code=>Tc (P:=P) w' k1 l1 l2.toNat code q1 (by omega);have e2:=fun code=>Tc (P:=P) w' k2 l2 cap code (by omega) (by omega);simp_all [Instr.sliceBounds]
 ·cases hb
theorem i7 {P:Program} {t:TypeId} {x:V} {lo hi:Option V} {u:Value} {lv hv:Option Value} {w:World} {G:AG} (hx:Ab w G x u) (h1:JU w G lo lv) (h2:JU w G hi hv) (hs:(Hi P t x lo hi).1):
 ∃ r,Ab w G (Hi P t x lo hi).2 r/\ ∀ w',(Instr.sliceAt t u lv hv none).run P w'= .ok r w':=by
 unfold Hi at *;split at hs
 ·rename_i s;split at hs
  ·rename_i l h hb;simp only [Ab,Ad]at hx;subst hx;obtain⟨q0,q1,q2,q3⟩:=hs;refine⟨_,(AU rfl).2 rfl,fun w'=>?_⟩;have e:(⟨s.toArray⟩:ByteArray).extract l.toNat h.toNat=⟨((s.drop l.toNat).take (h.toNat - l.toNat)).toArray⟩:=by apply ByteArray.ext;simp_all
   have:=YU (P:=P) (w:=w) (G:=G) false (len:=s.length) (cap:=s.length) hb h1 h2 q1 q2 q3 (le_refl _) w';simp_all [Instr.sliceAt,Instr.slice,run_underlying,JR,qi,Jc]
  grind
 ·rename_i len cs;split at hs
  ·rename_i e n l h hse hb;obtain⟨q1,q2,q3,q4⟩:=hs;obtain⟨hu,inf,hi',hsz⟩:=DI hse;simp only [Ab,Ad]at hx ⊢;obtain⟨hp,ad,cap,rfl,c1,c2,c3,c4⟩:=hx;have hr:=fun w'=>YU (P:=P) (w:=w) (G:=G) true (len:=len) (cap:=cap) hb h1 h2 q1 q2 q3 c1 w';refine⟨.slice (if cap=l.toNat then ad else ad.map (·.add (l.toNat*n))) (h.toNat - l.toNat) (cap - l.toNat),⟨MT _ (MU _ hp),_,_,rfl,by omega,by omega,?_,?_⟩,fun w'=>?_⟩
   ·simp_all
   ·by_cases hz:h.toNat - l.toNat=0
    ·grind
    ·right;rcases c4 with c4 | ⟨b,o,rfl,k1,k2,k3⟩
     ·omega
     ·have Tj: ¬cap=l.toNat:=by omega
      refine⟨b,o+l.toNat*n,?_,k1,k2,?_⟩
      ·simp_all [Addr.add_mid]
      ·exact(k3.drop (l.toNat*n)).take _
   simp_all [Instr.sliceAt,Instr.slice,run_underlying,sizeOf,typeInfo]
  grind
 ·rename_i id off;split at hs
  ·rename_i k e n l h hae hb;obtain⟨q1,q2,q3,q4⟩:=hs;obtain⟨hu,inf,hi',hsz⟩:=MW hae;simp only [hae]at hb;simp only [Ab,Ad]at hx ⊢;obtain⟨b,hb1,rfl⟩:=hx;have hr:=fun sl w'=>YU (P:=P) (w:=w) (G:=G) sl (len:=k) (cap:=k) hb h1 h2 q1 q3 q4 (le_refl _) w';have Tj: ¬k=l.toNat:=by omega
   refine⟨.slice (some (if k=l.toNat then⟨b,off,none⟩else(⟨b,off,none⟩:Addr).add (l.toNat*n))) (h.toNat - l.toNat) (k - l.toNat),⟨b,k - l.toNat,off+l.toNat*n,hb1,?_,by omega,le_refl _, .inr rfl⟩,fun w'=>?_⟩
   ·simp_all [Addr.add_mid]
   simp_all [Instr.sliceAt,Instr.sureAddr,run_underlying,sizeOf,typeInfo]
  grind
 grind
def EV (P:Program) (t:TypeId):Bool:=
 match P.underlying t with
 | some (.slice _)=>true
 | _=>false
def Q9 (P:Program) (t:TypeId) (st:St) (x:V):Prop×V:=
 match x with
 | .c (.str s)=>(Eh P t=true, .c (.int .i64 s.length))
 | .c (.sl len _)=>(EV P t=true, .c (.int .i64 len))
 | .c (.e_ id)=>match st.acS id with
   | some e=>match e.row with
     | some (_,_,len)=>(EV P t=true, .c (.int .i64 len))
     | none=>no
   | none=>no
 | .c (.bsl _ _ len)=>(EV P t=true, .c (.int .i64 len))
 | .c (.rsl _ _ _ len)=>(EV P t=true, .c (.int .i64 len))
 | _=>match Gx P t with
   | some (k,_,_)=>(True, .c (.int .i64 k))
   | none=>no
theorem EW {P:Program} {t:TypeId} (h:EV P t=true): ∃ e,P.underlying t=some (.slice e):=by grind [EV]
theorem vg {F:Fr} {st:St} {a:Act} {w:World} {G:AG} (h:R F st a w G) {id:Ah} {e:Aw} (he:st.acS id=some e) {E n len:Nat} (z_:e.row=some (E,n,len)) {u:Value} (hx:Ad w G (.e_ id) u):
 ∃ ad cap,u= .slice ad len cap:=by
 obtain⟨hm,hid⟩:=UO he;have hE:=h.store e hm;unfold Bc at hE;rw [z_]at hE;obtain⟨hl,v,aam,ame⟩:=hE;simp only [Ad]at hx;grind
theorem ql {P:Program} {F:Fr} {st:St} {a:Act} {w:World} {G:AG} (h:R F st a w G) {t ty:TypeId} {x:V} {u:Value} (hx:Ab w G x u) (hs:(Q9 P t st x).1):
 ∃ r,Ab w G (Q9 P t st x).2 r/\ ∀ w',(Builtin.len_ #[t] ty #[u]).run P w'= .ok r w':=by
 unfold Q9 at *;split at hs
 ·simp only [Ab,Ad]at hx;subst hx;exact⟨_,(AU rfl).2 rfl,(by simp_all [Builtin.len_,run_underlying,JR,goInt,qi,Jc])⟩
 ·obtain⟨e,he⟩:=EW hs;simp only [Ab,Ad]at hx;obtain⟨_,ad,cap,rfl,_⟩:=hx;exact⟨_,(AU rfl).2 rfl,(by simp_all [Builtin.len_,run_underlying,goInt,Jc])⟩
 ·split at hs
  ·rename_i e hlk;split at hs
   ·rename_i E n len z_;obtain⟨el,he⟩:=EW hs;obtain⟨ad,cap,rfl⟩:=vg h hlk z_ (by simpa [Ab] using hx);exact⟨_,(AU rfl).2 rfl,(by simp_all [Builtin.len_,run_underlying,goInt,Jc])⟩
   grind
  grind
 ·obtain⟨e,he⟩:=EW hs;simp only [Ab,Ad]at hx;obtain⟨b,cap,o,hb,rfl,hc,_⟩:=hx;exact⟨_,(AU rfl).2 rfl,(by simp_all [Builtin.len_,run_underlying,goInt,Jc])⟩
 ·obtain⟨e,he⟩:=EW hs;simp only [Ab,Ad]at hx;obtain⟨_,_,_,_,_,_,rfl,_⟩:=hx;exact⟨_,(AU rfl).2 rfl,(by simp_all [Builtin.len_,run_underlying,goInt,Jc])⟩
 ·split at hs
  ·rename_i k el n hae;obtain⟨hu,_⟩:=MW hae;exact⟨_,(AU rfl).2 rfl,(by simp_all [Builtin.len_,run_underlying,goInt,Jc])⟩
  grind
def LI:List V->Option (IntKind×Int×List Int)
 | [.c (.int k x)]=>some (k,x,[])
 | .c (.int k x)::vs=>match LI vs with
   | some (_,y,ys)=>some (k,x,y::ys)
   | none=>none
 | _=>none
def qm (vs:List V):Prop×V:=
 match LI vs with
 | some (k,x,ys)=>(True, .c (.int k (ys.foldl (fun a y=>if y<a then y else a) x)))
 | none=>no
def qn (vs:List V):Prop×V:=
 match LI vs with
 | some (k,x,ys)=>(True, .c (.int k (ys.foldl (fun a y=>if a<y then y else a) x)))
 | none=>no
theorem Ra {w:World} {G:AG}: ∀ {vs:List V} {us:List Value} {k:IntKind} {x:Int} {ys:List Int},LI vs=some (k,x,ys)->Aq w G vs us->
 ∃ ks:List IntKind,us= .int k x::(ks.zip ys).map (fun p=>Value.int p.1 p.2)/\ks.length=ys.length
 | [],us,k,x,ys,h,_=>by simp [LI]at h
 | [v],us,k,x,ys,h,hr=>by
   unfold LI at h;split at h
   ·rename_i k' x' he;injection he with he _;subst he;simp only [injEq,Prod.mk.injEq]at h;obtain⟨rfl,rfl,rfl⟩:=h;simp only [Aq,Ab,Ad]at hr;simp_all
   all_goals grind
 | v::v2::vs,us,k,x,ys,h,hr=>by
   unfold LI at h;split at h
   ·grind
   ·rename_i k' x' vs' Tj he;injection he with he1 he2;subst he1 he2;split at h
    ·rename_i k2 y ys' q;simp only [injEq,Prod.mk.injEq]at h;obtain⟨rfl,rfl,rfl⟩:=h;rw [Aq]at hr;obtain⟨u,r,rfl,h1,h2⟩:=hr;simp only [Ab,Ad]at h1;subst h1;obtain⟨ks,e,hl⟩:=Ra q h2;exact⟨k2::ks,by rw [e];simp,by simp [hl]⟩
    ·cases h
   ·cases h
theorem Ss {P:Program} (w:World) (k:IntKind): ∀ (ks:List IntKind) (ys:List Int) (x:Int),ks.length=ys.length->
 (((ks.zip ys).map (fun p=>Value.int p.1 p.2)).foldlM Builtin.min2 (.int k x)).run P w= .ok (.int k (ys.foldl (fun a y=>if y<a then y else a) x)) w
 | [],[],x,_=>by simp
 | [],_::_,_,h=>by simp at h
 | _::_,[],_,h=>by simp at h
 | k'::ks,y::ys,x,h=>by simp only [List.zip_cons_cons,map_cons,List.foldlM_cons,foldl_cons,Sem.run_bind,Builtin.min2,Sem.run_pure,Result.andThen_ok];exact Ss w k ks ys _ (by simpa using h)
theorem Su {P:Program} (w:World) (k:IntKind): ∀ (ks:List IntKind) (ys:List Int) (x:Int),ks.length=ys.length->
 (((ks.zip ys).map (fun p=>Value.int p.1 p.2)).foldlM Builtin.max2 (.int k x)).run P w= .ok (.int k (ys.foldl (fun a y=>if a<y then y else a) x)) w
 | [],[],x,_=>by simp
 | [],_::_,_,h=>by simp at h
 | _::_,[],_,h=>by simp at h
 | k'::ks,y::ys,x,h=>by simp only [List.zip_cons_cons,map_cons,List.foldlM_cons,foldl_cons,Sem.run_bind,Builtin.max2,Sem.run_pure,Result.andThen_ok];exact Su w k ks ys _ (by simpa using h)
theorem qo {P:Program} {vs:List V} {us:Array Value} {w:World} {G:AG} {ts:Array TypeId} {ty:TypeId} (hx:Aq w G vs us.toList) (hs:(qm vs).1):
 ∃ r,Ab w G (qm vs).2 r/\ ∀ w',(Builtin.min_ ts ty us).run P w'= .ok r w':=by
 unfold qm at *;split at hs
 ·rename_i k x ys h;obtain⟨ks,e,hl⟩:=Ra h hx;exact⟨_,(AU rfl).2 rfl,fun w'=>by simp only [Builtin.min_,e];exact Ss w' k ks ys x hl⟩
 grind
theorem qp {P:Program} {vs:List V} {us:Array Value} {w:World} {G:AG} {ts:Array TypeId} {ty:TypeId} (hx:Aq w G vs us.toList) (hs:(qn vs).1):
 ∃ r,Ab w G (qn vs).2 r/\ ∀ w',(Builtin.max_ ts ty us).run P w'= .ok r w':=by
 unfold qn at *;split at hs
 ·rename_i k x ys h;obtain⟨ks,e,hl⟩:=Ra h hx;exact⟨_,(AU rfl).2 rfl,fun w'=>by simp only [Builtin.max_,e];exact Su w' k ks ys x hl⟩
 grind
end Go.PL
namespace Go.PL
open Go Go.RowKit
def M_ (p:Prop×V) (f:V->Prop×V):Prop×V:=(p.1/\(f p.2).1,(f p.2).2)
def St.args (st:St) (g:Bool):List Operand->Prop×List V
 | []=>(True,[])
 | x::xs=>((st.arg g x).1/\(st.args g xs).1,(st.arg g x).2::(st.args g xs).2)
def Rb:V->Option (Bool×Bool)
 | .c (.bool q)=>some (true,q)
 | .g c (.c (.bool q))=>some (c,q)
 | _=>none
def YV (p:Bool) (a b:V):Prop×V:=
 match Rb a,Rb b with
 | some (ca,q),some (cb,r)=>((p=true->ca=true)/\(p=false->cb=true), .c (.bool (if p then q else r)))
 | _,_=>no
def dg:V->Prop×V
 | .c (.ptr id off)=>(True, .c (.ptr id off))
 | .c (.abQ cs off)=>(True, .c (.abQ cs off))
 | .c (.fn f)=>(True, .c (.fn f))
 | .c (.clo f cs)=>(True, .c (.clo f cs))
 | .c (.bmv f cs)=>(True, .c (.bmv f cs))
 | _=>no
def qq (i:Nat):V->Prop×V
 | .tup vs=>(i<vs.length,vs.getD i .undef)
 | _=>no
def C5 (st:St) (g:Bool):Option Operand->Prop×Option V
 | none=>(True,none)
 | some x=>((st.arg g x).1,some (st.arg g x).2)
def Rc (P:Program) (st:St) (g:Bool) (b:Builtin) (xs:List Operand) (ts:List TypeId):Prop×V:=
 match b,xs,ts with
 | .len,[x],[t]=>M_ (st.arg g x) (Q9 P t st)
 | .min,xs,_=>((st.args g xs).1/\(qm (st.args g xs).2).1,(qm (st.args g xs).2).2)
 | .max,xs,_=>((st.args g xs).1/\(qn (st.args g xs).2).1,(qn (st.args g xs).2).2)
 | _,_,_=>no
def rd (P:Program) (st:St) (g:Bool):Op->Prop×V
 | .move x=>st.arg g x
 | .assign x=>st.arg g x
 | .pick c a b=>M_ (st.arg g c) fun p=>match p with
   | .c (.bool q)=>YV q (st.ev a) (st.ev b)
   | _=>no
 | .load t x=>M_ (st.arg g x) (DM P t st)
 | .nilCheck x=>M_ (st.arg g x) dg
 | .binOp op t x y _=>M_ (st.arg g x) fun u=>M_ (st.arg g y) fun v=>XM P op t (BL x||BL y) u v
 | .unOp op _ x=>M_ (st.arg g x) (unV op)
 | .convert src dst x=>M_ (st.arg g x) (K4 P src dst st)
 | .slice t x lo hi none=>M_ (st.arg g x) fun u=>((C5 st g lo).1/\(C5 st g hi).1/\(Hi P t u (C5 st g lo).2 (C5 st g hi).2).1,(Hi P t u (C5 st g lo).2 (C5 st g hi).2).2)
 | .fieldAddr s x f=>M_ (st.arg g x) (B2 P s f)
 | .field t x f=>M_ (st.arg g x) (JS P t f)
 | .indexAddr t x i=>M_ (st.arg g x) fun u=>M_ (st.arg g i) fun v=>Ch P t st u v
 | .index t x i=>M_ (st.arg g x) fun u=>M_ (st.arg g i) fun v=>IM P t u v
 | .extract x i=>M_ (st.arg g x) (qq i)
 | .call c=>match c.callee with
   | .builtin b=>Rc P st g b c.args.toList c.argTypes.toList
   | _=>no
 | _=>no
theorem YW {w:World} {G:AG} {x:V} {v:Value} {c q:Bool} (h:Rb x=some (c,q)) (hr:Ab w G x v) (hc:c=true):v= .bool q:=by
 unfold Rb at h;split at h
 ·simp only [injEq,Prod.mk.injEq]at h;obtain⟨rfl,rfl⟩:=h;grind [Ab,Ad]
 ·simp only [injEq,Prod.mk.injEq]at h;obtain⟨rfl,rfl⟩:=h;simp_all [Ab,Ad]
 ·cases h
theorem R.args {F:Fr} {st:St} {a:Act} {w:World} {G:AG} (h:R F st a w G) {g:Bool} (hg:g=true): ∀ {xs:List Operand},(st.args g xs).1->Aq w G (st.args g xs).2 (xs.map a.eval)
 | [],_=>by simp [St.args,Aq]
 | x::xs,hs=>by simp only [St.args]at hs ⊢;simp only [Aq,map_cons];exact⟨_,_,rfl,h.arg hg hs.1,h.args hg hs.2⟩
theorem Jv {w:World} {G:AG}: ∀ {xs:List V} {vs:List Value},Aq w G xs vs-> ∀ i,i<xs.length-> ∃ v,vs[i]? =some v/\Ab w G (xs.getD i .undef) v
 | [],vs,h,i,hi=>by simp at hi
 | x::xs,vs,h,i,hi=>by
   simp only [Aq]at h;obtain⟨v,r,rfl,h1,h2⟩:=h;cases i with
   | zero=>exact⟨v,by simp,by simpa using h1⟩
   | succ i=>
     obtain⟨v',q1,q2⟩:=Jv h2 i (by simpa using hi);exact⟨v',by simpa using q1,by simpa using q2⟩
theorem YX {F:Fr} {st:St} {a:Act} {w:World} {G:AG} (h:R F st a w G) {g:Bool} (hg:g=true) {x:Option Operand} (hs:(C5 st g x).1):JU w G (C5 st g x).2 (x.map a.eval):=by
 cases x with
 | none=>simp [C5,JU]
 | some x=>simp only [C5,Option.map,JU]at hs ⊢;exact h.arg hg hs
theorem me {P:Program} {F:Fr} {st:St} {a:Act} {w:World} {G:AG} (h:R F st a w G) {g:Bool} (hg:g=true) {o:Oper} (hs:(rd P st g o.op).1):
 ∃ v,Ab w G (rd P st g o.op).2 v/\ ∀ w',C1 w w'->(execOp a.eval o).run P w'= .ok (.value v) w':=by
 cases ho:o.op<;>simp only [rd,ho,M_]at hs ⊢ <;>try (exact hs.elim)
 case move x=>exact⟨_,h.arg hg hs,fun w' _=>by simp [execOp,ho]⟩
 case assign x=>exact⟨_,h.arg hg hs,fun w' _=>by simp [execOp,ho]⟩
 case pick c x y=>
  obtain⟨h1,h2⟩:=hs;have hc:=h.arg hg h1;split at h2
  ·rename_i q hq;rw [hq]at hc;simp only [Ab,Ad]at hc;unfold YV at h2 ⊢;split at h2
   ·rename_i ca qa cb qb e1 e2;cases q with
    | true=>
      have:=YW e1 (h.ev x) (h2.1 rfl);simp_all [Ab,Ad,execOp,asBool]
    | false=>
      have:=YW e2 (h.ev y) (h2.2 rfl);simp_all [Ab,Ad,execOp,asBool]
   grind
  grind
 case load t x=>
  obtain⟨v,q1,q2⟩:=OI (P:=P) h (h.arg hg hs.1) hs.2;exact⟨v,q1,(by simp_all [execOp])⟩
 case nilCheck x=>
  obtain⟨h1,h2⟩:=hs;have hx:=h.arg hg h1;unfold dg at h2 ⊢;split at h2
  ·rename_i id off e;rw [e]at hx;simp only [Ab,Ad]at hx ⊢;obtain⟨b,hb,hv⟩:=hx;exact⟨_,⟨b,hb,rfl⟩,(by simp_all [execOp])⟩
  ·rename_i cs off e;rw [e]at hx;simp only [Ab,Ad]at hx ⊢;obtain⟨hp,b,o',hv,k1⟩:=hx;exact⟨_,⟨hp,b,o',rfl,k1⟩,(by simp_all [execOp])⟩
  ·rename_i f e;rw [e]at hx;simp only [Ab,Ad]at hx ⊢;exact⟨_,rfl,(by simp_all [execOp])⟩
  ·rename_i f cs e;rw [e]at hx;simp only [Ab,Ad]at hx ⊢;obtain⟨arr,hv,hr⟩:=hx;exact⟨_,⟨arr,rfl,hr⟩,(by simp_all [execOp])⟩
  ·rename_i f cs e;rw [e]at hx;simp only [Ab,Ad]at hx ⊢;obtain⟨arr,hv,hr⟩:=hx;exact⟨_,⟨arr,rfl,hr⟩,(by simp_all [execOp])⟩
  grind
 case binOp op t x y t'=>
  obtain⟨v,q1,q2⟩:=qj (P:=P) (ox:=x) (oy:=y) (h.arg hg hs.1) (h.arg hg hs.2.1) hs.2.2;refine⟨v,q1,fun w' hw'=>?_⟩;have:=q2 w';simp only [execOp,ho,Sem.run_bind]at this ⊢;simp_all
 case unOp op t x=>
  obtain⟨v,q1,q2⟩:=ft (P:=P) (h.arg hg hs.1) hs.2;exact⟨v,q1,(by simp_all [execOp])⟩
 case convert src dst x=>
  obtain⟨v,q1,q2⟩:=mb (P:=P) h (h.arg hg hs.1) hs.2;exact⟨v,q1,(by simp_all [execOp])⟩
 case slice t x lo hi mx=>
  cases mx with
  | some _=>grind
  | none=>
    simp only [M_]at hs ⊢;obtain⟨v,q1,q2⟩:=i7 (P:=P) (h.arg hg hs.1) (YX h hg hs.2.1) (YX h hg hs.2.2.1) hs.2.2.2;exact⟨v,q1,(by simp_all [execOp])⟩
 case fieldAddr s x f=>
  obtain⟨v,q1,q2⟩:=Ma (P:=P) (h.arg hg hs.1) hs.2;exact⟨v,q1,(by simp_all [execOp])⟩
 case field s x f=>
  obtain⟨v,q1,q2⟩:=iZ (P:=P) (h.arg hg hs.1) hs.2;exact⟨v,q1,(by simp_all [execOp])⟩
 case indexAddr t x i=>
  obtain⟨v,q1,q2⟩:=Mb (P:=P) h (h.arg hg hs.1) (h.arg hg hs.2.1) hs.2.2;exact⟨v,q1,(by simp_all [execOp])⟩
 case index t x i=>
  obtain⟨v,q1,q2⟩:=i6 (P:=P) (h.arg hg hs.1) (h.arg hg hs.2.1) hs.2.2;exact⟨v,q1,(by simp_all [execOp])⟩
 case extract x i=>
  obtain⟨h1,h2⟩:=hs;have hx:=h.arg hg h1;unfold qq at h2 ⊢;split at h2
  ·rename_i vs e;rw [e]at hx;simp only [Ab]at hx;obtain⟨arr,hv,hr⟩:=hx;obtain⟨v,q1,q2⟩:=Jv hr i h2;have q1':arr[i]? =some v:=by grind
   exact⟨v,q2,(by simp_all [execOp,Instr.extract])⟩
  grind
 case call c=>
  split at hs
  ·rename_i b aev;unfold Rc at hs ⊢;split at hs
   ·rename_i x t hxs hts;have ea:c.args= #[x]:=by grind
    have et:c.argTypes= #[t]:=by grind
    obtain⟨v,q1,q2⟩:=ql (P:=P) (ty:=o.type) h (h.arg hg hs.1) hs.2;refine⟨v,q1,fun w' _=>?_⟩;simp_all [execOp,resolve,invoke,builtin]
   ·rename_i xs ts hxs;obtain⟨v,q1,q2⟩:=qo (P:=P) (ts:=c.argTypes) (ty:=o.type) (us:=c.args.map a.eval) (by simpa using h.args hg hs.1) hs.2;exact⟨v,q1,(by simp_all [execOp,resolve,invoke,builtin])⟩
   ·obtain⟨v,q1,q2⟩:=qp (P:=P) (ts:=c.argTypes) (ty:=o.type) (us:=c.args.map a.eval) (by simpa using h.args hg hs.1) hs.2;exact⟨v,q1,(by simp_all [execOp,resolve,invoke,builtin])⟩
   grind
  grind
end Go.PL
namespace Go.PL
open Go Go.RowKit
def Ig (id:Ah) (c:C):C:=if c.p_ id then .any else c
def Ff (id:Ah) (v:V):V:=if v.p_ id then .undef else v
def Aw.kill (id:Ah) (e:Aw):Aw:=match e with
 | ⟨i,r,cs,true⟩=>⟨i,r,cs,true⟩
 | ⟨i,r,cs,false⟩=>⟨i,r,cs.map (Ig id),false⟩
theorem Aw.L_ (id:Ah) (e:Aw):(e.kill id).id =e.id:=by obtain⟨i,r,cs,_ | _⟩:=e<;>rfl
theorem Aw.adT (id:Ah) (e:Aw):(e.kill id).row =e.row:=by obtain⟨i,r,cs,_ | _⟩:=e<;>rfl
def St.kill (st:St) (id:Ah):St:={tm:=st.tm.map (Ff id),so:=(st.so.filter (fun e=>e.id != id&& !(C4 id&&Fh e.id))).map (Aw.kill id),gh:=st.gh.map (Ff id),pre:=st.pre}
def Wy (e:Aw) (l:List Aw):List Aw:=match C4 e.id||Fh e.id with
 | true=>l
 | false=>e::l
def St.new (st:St) (e:Aw):St:={tm:=(st.kill e.id).tm,so:=Wy (e.kill e.id) (st.kill e.id).so,gh:=(st.kill e.id).gh,pre:=st.pre}
theorem Jw {e x:Aw} {l:List Aw} (h:x∈Wy e l):x=e/\C4 e.id=false/\Fh e.id=false\/x∈l:=by grind [Wy]
def B9 (F:Fr) (G:AG) (id:Ah) (b:Option Nat) (v:Option Value):AG where
 m_:=fun i=>if i=id then b else G.m_ i
 own:=fun i=>if i=id then v else G.own i
 wr:=fun x=>F.av x\/ ∃ i,(if i=id then b else G.m_ i)=some x
theorem vh (id:Ah) (c:C):(Ig id c).p_ id=false:=by grind [Ig,C.p_]
theorem UQ (id:Ah) (v:V):(Ff id v).p_ id=false:=by grind [Ff,V.p_]
theorem UR (id:Ah): ∀ cs:List C,BP id (cs.map (Ig id))=false
 | []=>by simp [BP]
 | c::cs=>by simp [BP,vh,UR id cs]
theorem vi {w:World} {G:AG} {id:Ah} {c:C} {v:Value} (h:Ad w G c v):Ad w G (Ig id c) v:=by
 unfold Ig;split
 ·simp only [Ad];exact h.one
 ·exact h
theorem US {w:World} {G:AG} {id:Ah}: ∀ {cs:List C} {vs:List Value},Aj w G cs vs->Aj w G (cs.map (Ig id)) vs
 | [],[],_=>by simp [Aj]
 | [],_::_,h=>by grind
 | _::_,[],h=>by simp [Aj]at h
 | c::cs,v::vs,h=>by simp only [Aj]at h;simp only [map_cons,Aj];exact⟨vi h.1,US h.2⟩
theorem Wz {w:World} {G:AG} {id:Ah} {cs:List C} {b o:Nat} (h:An w G cs b o):An w G (cs.map (Ig id)) b o:=by obtain⟨vs,h1,h2⟩:=h.list;exact An.aaA (US h1) h2
theorem UT {w:World} {G:AG} {id:Ah} {x:V} {v:Value} (h:Ab w G x v):Ab w G (Ff id x) v:=by grind [Ff,Ab]
theorem Re {w:World} {G:AG} {id:Ah}: ∀ {xs:List V} {vs:List Value},Aq w G xs vs->Aq w G (xs.map (Ff id)) vs
 | [],_,h=>by grind
 | x::xs,vs,h=>by simp only [Aq]at h;obtain⟨v,r,e,h1,h2⟩:=h;simp only [map_cons,Aq];exact⟨v,r,e,UT h1,Re h2⟩
theorem Rf (id:Ah): ∀ xs:List V,LG id (xs.map (Ff id))=false
 | []=>by simp [LG]
 | x::xs=>by simp [LG,UQ,Rf id xs]
theorem fu {w:World} {G:AG} {id:Ah} {e:Aw} (h:Bc w G e):Bc w G (e.kill id):=by
 obtain⟨i,r,cs,pu⟩:=e;cases pu with
 | true=>exact h
 | false=>
 unfold Bc at *;simp only [Aw.kill];simp only at h;split at h
 ·obtain⟨b,h1,h2⟩:=h;refine⟨b,h1,?_⟩;rcases h2 with ⟨kv,es,rfl,h2⟩ | ⟨T,cur,h2,h3,h4⟩
  ·exact .inl ⟨kv,es,by simp [Ig,C.p_],h2⟩
  ·exact .inr ⟨T,cur,h2,by simpa using h3,Wz h4⟩
 ·obtain⟨hl,v,h1,h2⟩:=h;refine⟨by grind,v,h1,?_⟩;rcases h2 with h2 | ⟨b,cap,cur,e1,e2,e3,e4,e5,e6,e7⟩
  ·grind
  ·exact .inr ⟨b,cap,cur,e1,e2,e3,e4,e5,e6,Wz e7⟩
theorem PZ {id:Ah} {e:Aw} (h:e.pu=true->Ao e.cs=true):(e.kill id).pu =true->Ao (e.kill id).cs =true:=by
 obtain⟨i,r,cs,pu⟩:=e;cases pu with
 | true=>exact h
 | false=>intro hq;cases hq
theorem mf {id:Ah} {e:Aw} (h:e.pu=true->Ao e.cs=true):BP id (e.kill id).cs =false:=by
 obtain⟨i,r,cs,pu⟩:=e;cases pu with
 | true=>exact AP id cs (h rfl)
 | false=>exact UR id cs
theorem Cx {w w':World} {G G':AG} (hk:Co G G' w w') {e:Aw} (ha:JQ (fun id=>BP id e.cs=true) G G') (hid:G'.m_ e.id=G.m_ e.id/\G'.own e.id=G.own e.id)
 (hb: ∀ b,G.m_ e.id=some b->w'.heap[b]? =w.heap[b]?) (h:Bc w G e):Bc w' G' e:=by
 unfold Bc at *;split at h
 ·obtain⟨b,h1,h2⟩:=h;refine⟨b,by grind,?_⟩;rcases h2 with ⟨kv,es,h2,h3,h4⟩ | ⟨T,cur,h2,h3,h4⟩
  ·exact .inl ⟨kv,es,h2,by rw [hb b h1];exact h3,h4⟩
  ·exact .inr ⟨T,cur,by rw [hb b h1];exact h2,h3,An.mono hk _ _ _ ha (fun o=>X_ (hb b h1) o) h4⟩
 ·obtain⟨hl,v,h1,h2⟩:=h;refine⟨hl,v,by grind,?_⟩;rcases h2 with ⟨p,e1,e2,e3⟩ | ⟨b,cap,cur,e1,e2,e3,e4,e5,e6,e7⟩
  ·grind
  ·exact .inr ⟨b,cap,cur,e1,by grind,by grind,e4,e5,e6,(by grind [An.mono,X_])⟩
theorem EU.mono {w w':World} {G G':AG} (hk:Co G G' w w') {e:Aw} (hid:G'.m_ e.id=G.m_ e.id/\G'.own e.id=G.own e.id) (hmk: ∀ k,G'.m_ (BO k e.id)=G.m_ (BO k e.id)/\G'.own (BO k e.id)=G.own (BO k e.id))
 (hb: ∀ b,G.m_ e.id=some b->w'.heap[b]? =w.heap[b]?) (hbm: ∀ k b,G.m_ (BO k e.id)=some b->w'.heap[b]? =w.heap[b]?) (h:EU w G e):EU w' G' e:=fun k E n len cs q=>by
 obtain⟨h1,h2,b,v,h3,h4,h5⟩:=h k E n len cs q;refine⟨h1,Cx hk (e:=⟨BO k e.id,some (E,n,len),cs,true⟩) (fun i hi=>absurd (show BP i cs=true from hi) (by rw [AP i cs h1];simp)) (hmk k) (hbm k) h2,b,v,by grind,?_,by grind⟩;grind [X_]
theorem BC.mono {w w':World} {G G':AG} (hk:Co G G' w w') {e:Aw} (hid:G'.m_ e.id=G.m_ e.id/\G'.own e.id=G.own e.id) (hmk:Fh e.id=true-> ∀ k,G'.m_ (BO k e.id)=G.m_ (BO k e.id)/\G'.own (BO k e.id)=G.own (BO k e.id))
 (hb: ∀ b,G.m_ e.id=some b->w'.heap[b]? =w.heap[b]?) (hbm:Fh e.id=true-> ∀ k b,G.m_ (BO k e.id)=some b->w'.heap[b]? =w.heap[b]?) (h:BC w G e):BC w' G' e:=
 ⟨h.1,fun hd=>⟨(h.2 hd).1,(h.2 hd).2.1,(h.2 hd).2.2.mono hk hid (hmk hd) hb (hbm hd)⟩⟩
theorem BC.kill {w:World} {G:AG} {e:Aw} {id:Ah} (h:BC w G e):BC w G (e.kill id):=by
 obtain⟨i,r,cs,pu⟩:=e;cases pu with
 | true=>exact h
 | false=>exact⟨h.1,fun hd=>absurd (h.2 hd).1 (by simp)⟩
theorem BC.aph {w:World} {G:AG} {e:Aw} (h1:C4 e.id=false) (h2:Fh e.id=false):BC w G e:=⟨h1,fun hd=>by rw [h2]at hd;cases hd⟩
theorem F4 {st:St} {f:V->V} (hf:f .undef = .undef) (i:Nat):(st.tm.map f).getD i .undef =f (st.tm.getD i .undef):=by grind
structure OL (w w':World):Prop where
 os:w'.os=w.os
 tape:w'.tape=w.tape
 output:w'.output=w.output
theorem R.rename {F:Fr} {st:St} {a:Act} {w w':World} {G:AG} (h:R F st a w G) (id:Ah) (nb:Option Nat) (nv:Option Value)
 (ho:OL w w') (hs:w.heap.size<=w'.heap.size)
 (aoc: ∀ b,b<F.w0.heap.size-> ¬F.old b->w'.heap[b]? =w.heap[b]?)
 (hn: ∀ b,nb=some b->(w.heap.size<=b\/G.m_ id=some b)/\b<w'.heap.size) (an:St)
 (htm:an.tm.length=st.tm.length) (hsl: ∀ i,Ab w' (B9 F G id nb nv) (an.tm.getD i .undef) (a.tmps.getD i Go.undef))
 (hgh:Aq w' (B9 F G id nb nv) an.gh F.gv) (hpu: ∀ e∈an.so,e.pu=true->Ao e.cs=true) (hso: ∀ e∈an.so,Bc w' (B9 F G id nb nv) e) (hdp: ∀ e∈an.so,BC w' (B9 F G id nb nv) e) (hnd:(an.so.map (·.id)).Nodup):R F an a w' (B9 F G id nb nv) where
 dfr:=h.dfr
 size:=by rw [htm];exact h.size
 v_:=hsl
 F_:=hgh
 x_:=hpu
 store:=hso
 deep:=hdp
 nodup:=hnd
 inj:=by
  intro i j b hi hj;simp only [B9]at hi hj;split at hi<;>split at hj
  ·simp_all
  ·rename_i q1 q2;rcases (hn b hi).1 with q | q
   ·exact absurd (h.lt j b hj) (by omega)
   ·exact absurd (h.inj j id b hj q) q2
  ·rename_i q1 q2;rcases (hn b hj).1 with q | q
   ·exact absurd (h.lt i b hi) (by omega)
   ·exact absurd (h.inj i id b hi q) q1
  ·exact h.inj i j b hi hj
 lt:=by
  intro i b hi;simp only [B9]at hi;split at hi
  ·grind
  ·exact lt_of_lt_of_le (h.lt i b hi) hs
 new:=by
  intro i b hi;simp only [B9]at hi;split at hi
  ·rcases (hn b hi).1 with q | q
   ·grind
   ·exact h.new id b q
  ·exact h.new i b hi
 wr:=fun b=>Iff.rfl
 aaS:=h.aaS
 inv:=h.inv
 aah:=h.aah
 os:=ho.os.trans h.os
 tape:=ho.tape.trans h.tape
 output:=ho.output.trans h.output
 u_:=le_trans h.u_ hs
 ext:=fun b hb hold=>(aoc b hb hold).trans (h.ext b hb hold)
theorem R.keeps {F:Fr} {st:St} {a:Act} {w w':World} {G:AG} (h:R F st a w G) (id:Ah) (nb:Option Nat) (nv:Option Value)
 (hs:w.heap.size<=w'.heap.size) (abD: ∀ b,b<w.heap.size->(G.m_ id ≠ some b)->w'.heap[b]? =w.heap[b]?)
 (hn: ∀ b,nb=some b->w.heap.size<=b\/(G.m_ id=some b/\Cg w w' b)):Co G (B9 F G id nb nv) w w' where
 size:=hs
 block:=fun b hb hw=>abD b hb (fun he=>hw ((h.wr b).2 (.inr ⟨id,he⟩)))
 wr:=by intro b hb hw;simp only [B9]at hw;rw [h.wr];grind
 ty:=by
  intro i b h1 h2;have hb:=h.lt i b h1;simp only [B9]at h2;split at h2
  ·grind
  ·rename_i Tj;exact Cg.same (abD b hb (fun q=>Tj (h.inj _ _ b h1 q)))
theorem Dl {F:Fr} {G:AG} {id:Ah} {nb:Option Nat} {nv:Option Value} {S:Ah->Prop} (hS: ∀ i,S i->i ≠ id):JQ S G (B9 F G id nb nv):=
 fun i hi=>by simp [B9,hS i hi]
theorem R.set {F:Fr} {st:St} {a:Act} {w w':World} {G:AG} (h:R F st a w G) (e:Aw) (nb:Option Nat) (nv:Option Value)
 (ho:OL w w') (hs:w.heap.size<=w'.heap.size) (abD: ∀ b,b<w.heap.size->(G.m_ e.id ≠ some b)->w'.heap[b]? =w.heap[b]?)
 (aoc: ∀ b,b<F.w0.heap.size-> ¬F.old b->w'.heap[b]? =w.heap[b]?)
 (hn: ∀ b,nb=some b->(w.heap.size<=b\/(G.m_ e.id=some b/\Cg w w' b))/\b<w'.heap.size) (hp:e.pu=true->Ao e.cs=true) (he:Bc w' (B9 F G e.id nb nv) (e.kill e.id)):R F (st.new e) a w' (B9 F G e.id nb nv):=by
 have hk:=h.keeps e.id nb nv hs abD (by grind);refine h.rename e.id nb nv ho hs aoc (by grind) (st.new e) (by simp [St.new,St.kill]) ?_ ?_ ?_ ?_ ?_ ?_
 ·intro i;simp only [St.new,St.kill];rw [F4 (by simp [Ff,V.p_])];exact Ab.mono hk _ _ (by grind [Dl,UQ]) (UT (h.v_ i))
 ·simp only [St.new,St.kill];exact Aq.mono hk _ _ (by grind [Dl,Rf]) (Re h.F_)
 ·intro e' he';simp only [St.new,St.kill]at he';rcases Jw he' with ⟨rfl,_⟩ | he'
  ·exact PZ hp
  ·simp only [mem_map,mem_filter]at he';obtain⟨d,⟨hd,Tj⟩,rfl⟩:=he';exact PZ (h.x_ d hd)
 ·intro e' he';simp only [St.new,St.kill]at he';rcases Jw he' with ⟨rfl,_⟩ | he'
  ·exact he
  ·simp only [mem_map,mem_filter,and_eq_true]at he';obtain⟨d,⟨hd,Tj,_⟩,rfl⟩:=he';have adF:d.id ≠ e.id:=by grind
   refine Cx hk (Dl (fun i hi he'=>by subst he';rw [mf (h.x_ d hd)]at hi;cases hi)) (by grind [B9,Aw.L_]) ?_ (fu (h.store d hd));intro b hb;rw [Aw.L_]at hb;exact abD b (h.lt _ b hb) (fun q=>adF (h.inj _ _ b hb q))
 ·intro e' he';simp only [St.new,St.kill]at he';rcases Jw he' with ⟨rfl,h1,h2⟩ | he'
  ·exact BC.aph h1 h2
  ·simp only [mem_map,mem_filter,and_eq_true]at he';obtain⟨d,⟨hd,Tj,hmd⟩,rfl⟩:=he';have adF:d.id ≠ e.id:=by grind
   have hmk:Fh (d.kill e.id).id =true-> ∀ k,BO k (d.kill e.id).id ≠ e.id:=by grind [Aw.L_,lZ]
   refine BC.mono hk (by grind [B9,Aw.L_]) (by grind [B9]) ?_ (fun hq k b hb=>abD b (h.lt _ b hb) (fun q=>hmk hq k (h.inj _ _ b hb q))) (h.deep d hd).kill;intro b hb;rw [Aw.L_]at hb;exact abD b (h.lt _ b hb) (fun q=>adF (h.inj _ _ b hb q))
 ·have ag1:List.Sublist (((st.new e).so.map (·.id))) (e.id::((st.so.filter (fun d=>d.id != e.id&& !(C4 e.id&&Fh d.id))).map (·.id))):=by
   simp only [St.new,St.kill,Wy];split
   all_goals simp_all [Function.comp_def,Aw.L_]
  refine List.Sublist.nodup ag1 (List.nodup_cons.2 ⟨by grind,?_⟩);exact List.Sublist.nodup (by grind [List.filter_sublist]) h.nodup
theorem R.put {F:Fr} {st:St} {a:Act} {w:World} {G:AG} (h:R F st a w G) {d:Option Nat} {x:V} {v:Value} (hx:Ab w G x v):R F (st.put d x) (a.put d v) w G:=by
 cases d with
 | none=>exact h
 | some d=>
   exact {
    dfr:=h.dfr
    size:=by simp [St.put,Act.put,h.size]
    v_:=by
     intro i;simp only [St.put,Act.put];by_cases hi:i=d
     ·subst hi;by_cases hl:i<st.tm.length
      ·simp [List.getD_eq_getElem?_getD,hl,h.size,hx]
      grind [Ab]
     ·have h1:(st.tm.set d x).getD i .undef =st.tm.getD i .undef :=by grind
      have h2:(a.tmps.setIfInBounds d v).getD i Go.undef=a.tmps.getD i Go.undef:=by simp_all [Ne.symm]
      rw [h1,h2];exact h.v_ i
    F_:=by simpa [St.put] using h.F_
    store:=h.store,deep:=h.deep,x_:=h.x_,nodup:=h.nodup,inj:=h.inj,lt:=h.lt,new:=h.new,wr:=h.wr,aaS:=h.aaS,inv:=h.inv,aah:=h.aah,os:=h.os,tape:=h.tape,output:=h.output,u_:=h.u_,ext:=h.ext}
theorem R.same {F:Fr} {st:St} {a:Act} {w w':World} {G:AG} (h:R F st a w G) (ho:OL w w') (hs:C1 w w'):R F st a w' G:=by
 have hk:Co G G w w':=⟨hs.size,fun b hb _=>hs.block b hb,fun b _ h=>h,fun i b h1 _=>Cg.same (hs.block b (h.lt i b h1))⟩;exact {
  dfr:=h.dfr,size:=h.size
  v_:=fun i=>Ab.mono hk _ _ (fun _ _=>⟨rfl,rfl⟩) (h.v_ i)
  F_:=Aq.mono hk _ _ (fun _ _=>⟨rfl,rfl⟩) h.F_
  store:=fun e he=>Cx hk (fun _ _=>⟨rfl,rfl⟩) ⟨rfl,rfl⟩ (fun b hb=>hs.block b (h.lt _ b hb)) (h.store e he)
  deep:=fun e he=>BC.mono hk ⟨rfl,rfl⟩ (by grind) (fun b hb=>hs.block b (h.lt _ b hb)) (fun _ k b hb=>hs.block b (h.lt _ b hb)) (h.deep e he)
  x_:=h.x_
  nodup:=h.nodup,inj:=h.inj
  lt:=fun i b hb=>lt_of_lt_of_le (h.lt i b hb) hs.size
  new:=h.new,wr:=h.wr,aaS:=h.aaS,inv:=h.inv,aah:=h.aah
  os:=ho.os.trans h.os,tape:=ho.tape.trans h.tape,output:=ho.output.trans h.output
  u_:=le_trans h.u_ hs.size
  ext:=fun b hb hold=>(hs.block b (lt_of_lt_of_le hb h.u_)).trans (h.ext b hb hold)}
end Go.PL
namespace Go.PL
open Go Go.RowKit
theorem Abf {w:World} {o:Obj} {b:Nat} (h:b<w.heap.size):(w.heap.push o)[b]? =w.heap[b]? :=by grind
theorem JV (w:World) (o:Obj):(w.alloc o).heap =w.heap.push o:=rfl
theorem K5 (w:World) (o:Obj):OL w (w.alloc o):=⟨rfl,rfl,rfl⟩
theorem JW (w:World) (o:Obj):C1 w (w.alloc o):=⟨by simp [JV],(by grind [JV])⟩
theorem HV {F:Fr} {st:St} {a:Act} {w w':World} {G:AG} (h:R F st a w G) {id:Ah} {nb:Option Nat} {nv:Option Value} (hk:Co G (B9 F G id nb nv) w w')
 {cs:List C} {vs:List Value} {row:Option (TypeId×Nat×Nat)} {pu:Bool} (hp:pu=true->Ao cs=true) (hr:Aj w G cs vs):Aj w' (B9 F G id nb nv) (Aw.kill id ⟨id,row,cs,pu⟩).cs vs:=by
 cases pu with
 | true=>exact Aj.mono hk _ _ (Dl (fun i hi he'=>by subst he';have:=AP i cs (hp rfl);grind [Aw.kill])) hr
 | false=>grind [Aj.mono,Dl,Aw.kill,UR,US]
theorem OM {id:Ah} {row:Option (TypeId×Nat×Nat)} {cs:List C} {pu:Bool}:(Aw.kill id ⟨id,row,cs,pu⟩).cs.length =cs.length:=by cases pu<;>simp [Aw.kill]
theorem mg {w:World} {G:AG} {e:Aw} (z_:e.row=none) (h: ∃ b T cur,G.m_ e.id=some b/\w.heap[b]? =some (.cells cur T (0,0))/\cur.size=e.cs.length/\An w G e.cs b 0):Bc w G e:=by unfold Bc;rw [z_];obtain⟨b,T,cur,h1,h2⟩:=h;exact⟨b,h1, .inr ⟨T,cur,h2⟩⟩
theorem JX {w:World} {G:AG} {e:Aw} {E n len:Nat} (z_:e.row=some (E,n,len)) (h:e.cs.length=len*n/\ ∃ v,G.own e.id=some v/\
 ((∃ p,v= .slice p 0 0/\len=0/\G.m_ e.id=none)\/
  ∃ b cap cur,v= .slice (some ⟨b,0,none⟩) len cap/\G.m_ e.id=some b/\w.heap[b]? =some (.cells cur E (0,0))/\len<=cap/\cap<=maxLen/\cur.size=cap*n/\An w G e.cs b 0)):Bc w G e:=by
 grind [Bc]
theorem QJ (w:World) (cur:Array Value) (T:TypeId):(w.alloc (.cells cur T)).rangeAt w.heap.size 0 cur.toList:=by intro j v hv;simp_all
theorem R.box {F:Fr} {st:St} {a:Act} {w:World} {G:AG} (h:R F st a w G) (id:Ah) (T:TypeId) (cs:List C) (cur:Array Value) (hr:Aj w G cs cur.toList) (pu:Bool) (hp:pu=true->Ao cs=true):
 R F (st.new ⟨id,none,cs,pu⟩) a (w.alloc (.cells cur T)) (B9 F G id (some w.heap.size) none):=by
 have aeY:=JW w (.cells cur T);refine h.set ⟨id,none,cs,pu⟩ (some w.heap.size) none (K5 _ _) aeY.size (fun b hb _=>aeY.block b hb) (fun b hb _=>aeY.block b (lt_of_lt_of_le hb h.u_)) ?_ hp ?_
 ·simp_all
 ·refine mg (Aw.adT _ _) ⟨w.heap.size,T,cur,by simp [B9,Aw.L_],by simp [JV],by rw [OM];simpa using hr.length.symm,?_⟩;exact An.aaA (HV h (h.keeps id _ _ aeY.size (fun b hb _=>aeY.block b hb) (by grind)) hp hr) (QJ w cur T)
theorem R.row {F:Fr} {st:St} {a:Act} {w:World} {G:AG} (h:R F st a w G) (id:Ah) (T n len cap:Nat) (cs:List C) (cur:Array Value) (vs:List Value) (hr:Aj w G cs vs) (hp:cur.toList.take vs.length=vs)
 (hl:cs.length=len*n) (hc:cur.size=cap*n) (hlc:len<=cap) (hm:cap<=maxLen) (pu:Bool) (hp':pu=true->Ao cs=true):
 R F (st.new ⟨id,some (T,n,len),cs,pu⟩) a (w.alloc (.cells cur T)) (B9 F G id (some w.heap.size) (some (.slice (some ⟨w.heap.size,0,none⟩) len cap))):=by
 have aeY:=JW w (.cells cur T);refine h.set ⟨id,some (T,n,len),cs,pu⟩ (some w.heap.size) _ (K5 _ _) aeY.size (fun b hb _=>aeY.block b hb) (fun b hb _=>aeY.block b (lt_of_lt_of_le hb h.u_)) ?_ hp' ?_
 ·simp_all
 ·refine JX (Aw.adT _ _) ⟨by rw [OM];exact hl,_,by simp_all [B9,Aw.L_], .inr ⟨w.heap.size,cap,cur,rfl,by simp [B9,Aw.L_],by simp [JV],hlc,hm,hc,?_⟩⟩;refine An.aaA (HV h (h.keeps id _ _ aeY.size (fun b hb _=>aeY.block b hb) (by grind)) hp' hr) ?_;intro j v hv;refine QJ w cur T j v ?_;grind
theorem R.ami {F:Fr} {st:St} {a:Act} {w:World} {G:AG} (h:R F st a w G) (id:Ah) (T n:Nat) (p:Option Addr):
 R F (st.new ⟨id,some (T,n,0),[],true⟩) a w (B9 F G id none (some (.slice p 0 0))):=by
 refine h.set ⟨id,some (T,n,0),[],true⟩ none _ ⟨rfl,rfl,rfl⟩ (le_refl _) (fun _ _ _=>rfl) (fun _ _ _=>rfl) (by grind) (fun _=>rfl) ?_;simp only [Bc,Aw.kill];exact⟨by simp, .slice p 0 0,by simp [B9], .inl ⟨p,rfl,trivial,by simp [B9]⟩⟩
theorem R.alg {F:Fr} {st:St} {a:Act} {w:World} {G:AG} (h:R F st a w G) (id:Ah) (T n:Nat):
 R F (st.new ⟨id,some (T,n,0),[],true⟩) a w (B9 F G id none (some (.slice none 0 0))):=h.ami id T n none
def V.cells:V->Option (List C)
 | .c x=>some [x]
 | .agg cs=>some cs
 | _=>none
theorem JY {w:World} {G:AG} {x:V} {v:Value} {cs:List C} (h:Ab w G x v) (hc:x.cells=some cs):Aj w G cs v.cells.toList:=by
 unfold V.cells at hc;split at hc
 ·injection hc with hc;subst hc;simp only [Ab]at h;have:=h.one;have e:v.cells= #[v]:=by cases v<;>simp_all [Value.cells,Value.oneCell']
  grind [Aj]
 ·injection hc with hc;subst hc;simp only [Ab]at h;obtain⟨arr,rfl,hr⟩:=h;grind [Value.cells]
 ·cases hc
def QK (P:Program) (t:TypeId):Option (List C):=
 match P.info? t with
 | some i=>match i.zero with
   | some z=>D5 z.cells.toList
   | none=>none
 | none=>none
theorem Hj {P:Program} {t:TypeId} {cs:List C} (h:QK P t=some cs): ∃ i z,P.info? t=some i/\i.zero=some z/\D5 z.cells.toList=some cs:=by grind [QK]
theorem aeG {P:Program} {t:TypeId} {i:TypeInfo} {z:Value} (hi:P.info? t=some i) (hz:i.zero=some z) (w:World):(zeroValue t).run P w= .ok z w:=by simp_all [zeroValue,typeInfo]
def JZ (place:Nat->Option (Nat×Nat)) (cells:List C):List (Nat×V)->Option (List C)
 | []=>some cells
 | (i,v)::rest=>match place i,v.cells with
   | some (off,size),some cs=>if cs.length=size/\off+size<=cells.length then JZ place (cells.take off++cs++cells.drop (off+size)) rest else none
   | _,_=>none
def OD (w:World) (G:AG):List (Nat×V)->List (Nat×Value)->Prop
 | [],[]=>True
 | (i,x)::xs,(j,v)::vs=>i=j/\Ab w G x v/\OD w G xs vs
 | _,_=>False
theorem fv (vs:List Value) (off:Nat): ∀ (k:Nat) (cs:Array Value),off+k+vs.length<=cs.size->
 ((vs.zipIdx k).foldl (fun cs (c,j)=>cs.setIfInBounds (off+j) c) cs).toList =cs.toList.take (off+k)++vs++cs.toList.drop (off+k+vs.length):=by
 induction vs with
 | nil=>simp_all
 | cons v vs ih=>
   intro k cs hk;simp only [List.zipIdx_cons,foldl_cons];simp only [List.length_cons]at hk ⊢;rw [ih (k+1) _ (by simp;omega)];have hlt:off+k<cs.toList.length:=by simp;omega
   rw [Array.toList_setIfInBounds,List.set_eq_take_append_cons_drop,if_pos hlt];have e1:(cs.toList.take (off+k)).length =off+k:=by grind
   rw [List.take_append,List.drop_append,e1];rw [show off+(k+1) - (off+k)=1 by omega,show off+(k+1)+vs.length - (off+k)=vs.length+1 by omega];rw [List.take_take,show min (off+(k+1)) (off+k)=off+k by omega];have e3:List.drop (off+(k+1)+vs.length) (List.take (off+k) cs.toList)=[]:=(by grind [List.drop_of_length_le]);grind [drop_drop]
theorem J0 {w:World} {G:AG} {place:Nat->Option (Nat×Nat)}: ∀ {ps:List (Nat×V)} {qs:List (Nat×Value)} {cells out:List C} {arr:Array Value},
 JZ place cells ps=some out->OD w G ps qs->Aj w G cells arr.toList-> ∃ abh,Instr.fill place arr qs=some abh/\Aj w G out abh.toList
 | [],[],cells,out,arr,h,_,hr=>by simp only [JZ,injEq]at h;subst h;exact⟨arr,rfl,hr⟩
 | [],_::_,_,_,_,_,h,_=>by simp [OD]at h
 | _::_,[],_,_,_,_,h,_=>by simp [OD]at h
 | (i,x)::ps,(j,v)::qs,cells,out,arr,h,hp,hr=>by
   simp only [OD]at hp;obtain⟨rfl,hv,hp⟩:=hp;simp only [JZ]at h;split at h
   ·rename_i off size cs hpl hcs;split at h
    ·rename_i hb;have hvc:=JY hv hcs;have hl:=hr.length;have hlv:=hvc.length;have e:=fv v.cells.toList off 0 arr (by simp at hl hlv ⊢;omega);simp only [Instr.fill,hpl];rw [if_neg (by simp at hl hlv ⊢;omega)];refine J0 h hp ?_;rw [<-Array.foldl_toList,Array.toList_zipIdx,e];simp only [add_zero];have:v.cells.toList.length=size:=by grind
     rw [this];exact((hr.take off).append hvc).append (hr.drop (off+size))
    ·cases h
   ·cases h
end Go.PL
namespace Go.PL
open Go Go.RowKit
theorem BE {w:World} {b:Nat} {cur:Array Value} {T:TypeId} {fr:Nat×Nat} (h:w.heap[b]? =some (.cells cur T fr)) {us rest:List Value} (e:us++rest=cur.toList):w.rangeAt b 0 us:=by
 intro j v hv;have h2:cur.toList[j]? =some v:=by grind
 grind [World.cell?]
theorem HW {w:World} {b:Nat} {cur:Array Value} {T:TypeId} {fr:Nat×Nat} (h:w.heap[b]? =some (.cells cur T fr)) {us:List Value} (hr:w.rangeAt b 0 us):us++cur.toList.drop us.length=cur.toList:=by
 have:us=cur.toList.take us.length:=by
  apply List.ext_getElem?;intro j;by_cases hj:j<us.length
  ·have:=hr j us[j] (by simp [hj]);simp_all [World.cell?]
  grind
 grind [take_append_drop]
def St.adw (st:St) (id:Ah) (cs:List C) (q:Bool):St:={st with so:=st.so.map fun e=>if e.id==id then⟨e.id,e.row,cs,e.pu&&q⟩else e}
theorem R.stored {F:Fr} {st:St} {a:Act} {w:World} {G:AG} (h:R F st a w G) {id:Ah} {e:Aw} (he:st.look id=some e) {b:Nat} (hb:G.m_ id=some b) {off:Nat} {xs:List C} {vs:List Value}
 (hx:Aj w G xs vs) (acy:off+xs.length<=e.cs.length):
 ∃ cur T,w.heap[b]? =some (.cells cur T (0,0))/\off+vs.length<=cur.size/\
   R F (st.adw id (e.cs.take off++xs++e.cs.drop (off+xs.length)) (Ao xs)) a (w.setRow b (cur.toList.take off++vs++cur.toList.drop (off+vs.length)).toArray) G:=by
 obtain⟨hm,hid⟩:=Bj he;obtain⟨cur,T,agJ,hle,z_⟩:=(h.store e hm).row (Yq he) (by rw [hid];exact hb);obtain⟨us,h1,h2⟩:=z_.list;have hlx:=hx.length;have hlu:=h1.length;have an4:=HW agJ h2;refine⟨cur,T,agJ,by omega,?_⟩;have hbl: ∀ k,k ≠ b->(w.setRow b (cur.toList.take off++vs++cur.toList.drop (off+vs.length)).toArray).heap[k]? =w.heap[k]? :=fun k hk=>setRow_other w b k _ hk;have aas:=setRow_heap w b cur (cur.toList.take off++vs++cur.toList.drop (off+vs.length)).toArray T (0,0) agJ;have hk:Co G G w (w.setRow b (cur.toList.take off++vs++cur.toList.drop (off+vs.length)).toArray):=
  ⟨by simp,fun k _ hw=>hbl k (fun q=>hw ((h.wr k).2 (by grind))),fun _ _ q=>q,fun i k h1 _=>by
   by_cases hkb:k=b
   ·subst hkb;intro adG T' fz' hq;grind
   grind [Cg.same]⟩
 have aia:(us.take off++vs++us.drop (off+vs.length))++cur.toList.drop us.length=(cur.toList.take off++vs++cur.toList.drop (off+vs.length)).toArray.toList :=by grind
 have aib:=BE aas aia;have hl2:Aj w G (e.cs.take off++xs++e.cs.drop (off+xs.length)) (us.take off++vs++us.drop (off+vs.length)):=by rw [hlx];exact((h1.take off).append hx).append (h1.drop _)
 have aeZ:=An.aaA (Aj.mono hk _ _ (fun _ _=>⟨rfl,rfl⟩) hl2) aib;have hlen:(e.cs.take off++xs++e.cs.drop (off+xs.length)).length =e.cs.length:=by simp;omega
 have asj:(cur.toList.take off++vs++cur.toList.drop (off+vs.length)).toArray.size =cur.size:=by simp;omega
 exact {
  dfr:=h.dfr,size:=h.size
  v_:=fun i=>Ab.mono hk _ _ (fun _ _=>⟨rfl,rfl⟩) (h.v_ i)
  F_:=Aq.mono hk _ _ (fun _ _=>⟨rfl,rfl⟩) h.F_
  store:=by
   intro e' he';simp only [St.adw,mem_map]at he';obtain⟨d,hd,rfl⟩:=he';split
   ·rename_i aif;replace aif:d.id=id:=by grind
    have:d=e:=by have hn:=h.nodup;have:=List.pairwise_map.1 hn;rcases mem_iff_getElem.1 hd with ⟨i,hi,rfl⟩;rcases mem_iff_getElem.1 hm with ⟨j,hj,rfl⟩;grind [List.pairwise_iff_getElem]
    subst this;have hE:=h.store d hd;unfold Bc at hE ⊢;simp only;split at hE
    ·rename_i hrn;obtain⟨b',q1,hbx⟩:=hE;obtain⟨T',adG,q2,q3,q4⟩:=hbx.cells (Yq he hrn);rw [hid,hb]at q1;injection q1 with q1;subst q1;rw [agJ]at q2;injection q2 with q2;injection q2 with q2a q2b;subst q2a q2b;exact⟨b,by grind, .inr ⟨T,_,aas,by rw [asj,hlen];exact q3,aeZ⟩⟩
    ·obtain⟨hl,v,q1,q2⟩:=hE;refine⟨by grind,v,q1,?_⟩;rcases q2 with q2 | ⟨b',cap,adG,e1,e2,e3,e4,e5,e6,e7⟩
     ·grind
     ·rw [hid,hb]at e2;injection e2 with e2;subst e2;rw [agJ]at e3;injection e3 with e3;injection e3 with e3a e3b;subst e3a e3b;exact .inr ⟨b,cap,_,e1,by grind,aas,e4,e5,by grind,aeZ⟩
   ·rename_i aif;replace aif: ¬d.id=id:=by grind
    exact Cx hk (fun _ _=>⟨rfl,rfl⟩) ⟨rfl,rfl⟩ (fun k hk'=>hbl k (fun q=>aif (h.inj _ _ k hk' (by grind)))) (h.store d hd)
  deep:=by
   intro e' he';simp only [St.adw,mem_map]at he';obtain⟨d,hd,rfl⟩:=he';split
   ·rename_i aif;replace aif:d.id=id:=by grind
    exact BC.aph (h.deep d hd).1 (by grind [FG])
   ·rename_i aif;replace aif: ¬d.id=id:=by grind
    refine BC.mono hk ⟨rfl,rfl⟩ (by grind) (fun k hk'=>hbl k (fun q=>aif (h.inj _ _ k hk' (by grind)))) (fun _ k b' hb'=>hbl b' (fun q=>?_)) (h.deep d hd);have h1:BO k d.id=id:=h.inj _ _ b' hb' (by grind);have h2:=(h.deep e hm).1;rw [hid, <-h1]at h2;cases h2
  x_:=by
   intro e' he';simp only [St.adw,mem_map]at he';obtain⟨d,hd,rfl⟩:=he';split
   ·rename_i aif;replace aif:d.id=id:=by grind
    have:d=e:=by have hn:=h.nodup;have:=List.pairwise_map.1 hn;rcases mem_iff_getElem.1 hd with ⟨i,hi,rfl⟩;rcases mem_iff_getElem.1 hm with ⟨j,hj,rfl⟩;grind [List.pairwise_iff_getElem]
    subst this;intro hq;simp only [and_eq_true]at hq;simp only [BT,and_eq_true];exact⟨⟨MT _ (h.x_ d hd hq.1),hq.2⟩,MU _ (h.x_ d hd hq.1)⟩
   ·exact h.x_ d hd
  nodup:=by
   have:(st.adw id (e.cs.take off++xs++e.cs.drop (off+xs.length)) (Ao xs)).so.map (·.id)=st.so.map (·.id):=by simp only [St.adw,map_map];apply List.map_congr_left;grind
   rw [this];exact h.nodup
  inj:=h.inj
  lt:=fun i k hi=>by simpa using h.lt i k hi
  new:=h.new,wr:=h.wr,aaS:=h.aaS,inv:=h.inv,aah:=h.aah
  os:=by simpa using h.os
  tape:=by simpa using h.tape
  output:=by simpa using h.output
  u_:=by simpa using h.u_
  ext:=fun k hk' hold=>(hbl k (fun q=>by
   rcases h.new id b hb with q2 | q2
   all_goals grind)).trans (h.ext k hk' hold)}
theorem DB {w:World} {G:AG} {e:Aw} {E n len:Nat} (z_:e.row=some (E,n,len)) (h:Bc w G e):
 ∃ v vs,G.own e.id=some v/\v.oneCell'=true/\Aj w G e.cs vs/\((w.ownsRow 0 E n v len vs/\v.ownBlock=G.m_ e.id)\/ ∃ p,v= .slice (some p) 0 0/\len=0/\vs=[]/\G.m_ e.id=none):=by
 unfold Bc at h;rw [z_]at h;obtain⟨hl,v,h1,h2⟩:=h;rcases h2 with ⟨p,rfl,h0,hb⟩ | ⟨b,cap,cur,rfl,e2,e3,e4,e5,e6,e7⟩
 ·have hcs:e.cs=[]:=by simp_all
  cases p with
  | none=>exact⟨_,[],h1,rfl,by rw [hcs];simp [Aj], .inl ⟨⟨by rw [h0];simp, .inl ⟨rfl,h0⟩⟩,by rw [hb];rfl⟩⟩
  | some p=>exact⟨_,[],h1,rfl,by rw [hcs];simp [Aj],(by grind)⟩
 ·obtain⟨us,q1,q2⟩:=e7.list;have hlu:=q1.length;have an4:=HW e3 q2;refine⟨_,us,h1,rfl,q1, .inl ⟨⟨by omega, .inr ⟨b,cap,cur,rfl,zero_le _,e3,e4,e5,e6,?_⟩⟩,by rw [e2];rfl⟩⟩;grind
theorem R.akH {F:Fr} {st:St} {a:Act} {w w':World} {G:AG} (h:R F st a w G) {id:Ah} {e:Aw} (he:st.look id=some e) {E n len m:Nat}
 {v v':Value} {xs us:List Value} {cs:List C} {q:Bool} (hq:q=true->Ao cs=true) (hob:v.ownBlock=G.m_ id) (h1:Aj w G e.cs xs) (h2:Aj w G cs us)
 (hold:w.ownsRow 0 E n v len xs) (aas:w'.ownsRow 0 E n v' (len+m) (xs++us)) (hg:w.grownBy w' v.ownBlock) (hfr:v'.ownBlock=v.ownBlock\/ ∀ b,v'.ownBlock=some b->w.heap.size<=b):
 ∃ G',R F (st.new ⟨id,some (E,n,len+m),e.cs++cs,e.pu&&q⟩) a w' G'/\G'.own id=some v'/\v'.oneCell'=true:=by
 obtain⟨hm,hid⟩:=Bj he;have abD: ∀ b,b<w.heap.size->G.m_ id ≠ some b->w'.heap[b]? =w.heap[b]? :=fun b hb Tj=>hg.block b hb (by grind);have hn: ∀ b,v'.ownBlock=some b->w.heap.size<=b\/(G.m_ id=some b/\Cg w w' b):=by
  intro b hb;rcases hfr with q | q
  ·refine .inr ⟨by grind,?_⟩;have hb2:v.ownBlock=some b:=by grind
   intro cur T fz hc;rcases aas.2 with ⟨r,_⟩ | ⟨g,cap,adG,r,_,r2,_⟩
   ·rw [r]at hb;cases hb
   ·rw [r]at hb;simp only [Value.ownBlock,injEq]at hb;subst hb;rcases hold.2 with ⟨r3,_⟩ | ⟨g3,avN,avL,r3,_,r4,_⟩
    all_goals grind [Value.ownBlock]
  grind
 have hlt: ∀ b,v'.ownBlock=some b->b<w'.heap.size:=fun b hb=>(aas.lt b hb).2;have acW:v'.oneCell'=true:=by rcases aas.2 with ⟨q,_⟩ | ⟨g,cap,cur,q,_⟩<;>rw [q]<;>rfl
 refine⟨B9 F G id v'.ownBlock (some v'),?_,by simp [B9],acW⟩;have hk:=h.keeps id v'.ownBlock (some v') hg.size abD hn;have hpq:(e.pu&&q)=true->Ao (e.cs++cs)=true:=fun hx=>by simp only [and_eq_true]at hx;rw [BT,h.x_ e hm hx.1,hq hx.2];rfl
 have au_:=HV (row:=some (E,n,len+m)) h hk hpq (h1.append h2);refine h.set ⟨id,some (E,n,len+m),e.cs++cs,e.pu&&q⟩ v'.ownBlock (some v') ⟨hg.os,hg.tape,hg.output⟩ hg.size abD ?_ (by grind) hpq ?_
 ·intro b hb aqH;refine abD b (lt_of_lt_of_le hb h.u_) (fun q=>?_);rcases h.new id b q with q2 | q2
  all_goals grind
 ·have hl:=h1.length;have hl2:=h2.length;have hln:=aas.1;refine JX (Aw.adT _ _) ⟨by grind [OM],v',by simp [B9,Aw.L_],?_⟩;rcases aas.2 with ⟨q,h0⟩ | ⟨g,cap,cur,q,_,q2,q3,q4,q5,q6⟩
  ·simp_all [B9,Value.ownBlock,Aw.L_]
  ·refine .inr ⟨g,cap,cur,q,by simp [B9,q,Value.ownBlock,Aw.L_],q2,q3,q4,q5,?_⟩;grind [An.aaA,BE,take_append_drop]
theorem IP {P:Program} {w:World} (t ty e:TypeId) (i:TypeInfo) (z:Value) (size bytes:Nat) (ht:P.underlying t=some (.slice e)) (hi:P.info? e=some i) (hz:i.zero=some z)
 (u_:i.size=size) (hby:i.bytes=bytes) (hzs:z.cells.size=size) (hsz:0<size)
 (v:Value) (n:Nat) (xs:List Value) (aam:w.ownsRow 0 e size v n xs)
 (a:Addr) (m c:Nat) (news:List Value) (hl:news.length=m*size) (aeq: ∀ j u,news[j]? =some u->w.cell? (a.add j)=some u) (h1: ∀ u∈news,u.oneCell'=true)
 (h63:n+m<=maxLen) (ajG:(n+m)*bytes<=140737488355328):
 ∃ v' w',(Builtin.append_ #[t,t] ty #[v, .slice (some a) m c]).run P w= .ok v' w'/\w'.ownsRow 0 e size v' (n+m) (xs++news)/\w.grownBy w' v.ownBlock/\
   (v'.ownBlock=v.ownBlock\/ ∀ b,v'.ownBlock=some b->w.heap.size<=b):=by
 subst u_ hby
 have hM:maxLen=9223372036854775807:=rfl;have hlen:(xs++news).length =(n+m)*i.size:=by rw [List.length_append,aam.1,hl, <-add_mul]
 have grown: ∀ old,old<n+m-> ∀ row,
  (w.drew.alloc (.cells (xs.toArray++news.toArray++Builtin.zeroCells z.cells (grownCap w (n+m) old e - (n+m))) e)).ownsRow 0 e i.size
   (.slice (some ⟨w.heap.size,0,none⟩) (n+m) (grownCap w (n+m) old e)) (n+m) (xs++news)/\
  w.grownBy (w.drew.alloc (.cells (xs.toArray++news.toArray++Builtin.zeroCells z.cells (grownCap w (n+m) old e - (n+m))) e)) row:=by
  intro old ho row;have hge:=grownCap_ge w (n+m) old e;have hcm:grownCap w (n+m) old e<=maxLen:=grownCap_le_maxLen w (n+m) old e h63;refine⟨⟨hlen, .inr ⟨w.heap.size,_,_,rfl,zero_le _,heap_alloc_new w.drew _,hge,hcm,?_,?_⟩⟩,⟨rfl,rfl,rfl,by simp,fun k hk _=>heap_alloc_old w.drew _ hk⟩⟩
  ·simp only [Array.size_append,List.size_toArray,size_zeroCells,hzs,aam.1,hl, <-add_mul];grind
  grind
 rcases aam.2 with ⟨rfl,rfl⟩ | ⟨g,cap,cur,rfl,hbg,hg,hnc,hcm,hcs,aqC⟩
 ·have hx:xs=[]:=(by simp_all);subst hx;by_cases hm:m=0
  ·subst hm;have hn:news=[]:=(by grind);subst hn;refine⟨.slice none 0 0,w,?_,(by grind),⟨rfl,rfl,rfl,le_refl _,fun _ _ _=>rfl⟩, .inl rfl⟩;simp [Builtin.append_,run_underlying ht,sizeOf,typeInfo,hi,Builtin.lenOf,Builtin.firstCells,loadCells,loadCellsFrom]
  ·have hr:=run_append_nil (P:=P) w t ty e i z ht hi hz a m c news hl aeq (by omega) (by omega) (by grind);have hgr:=grown 0 (by omega) (Value.ownBlock (.slice none 0 0));simp only [Nat.zero_add,List.nil_append,Array.empty_append]at hgr ⊢;grind [Value.ownBlock]
 ·by_cases ai4:n+m<=cap
  ·have amP:n*i.size+news.length<=cur.size:=by rw [hl,hcs, <-add_mul];simp_all [Nat.mul_le_mul_right]
   have hr:=run_append_room (P:=P) w t ty e i ht hi g n cap cur hg a m c news hl aeq h1 ai4 amP;refine⟨_,_,hr,⟨hlen, .inr ⟨g,cap,_,rfl,hbg,setRow_heap w g cur _ e _ hg,ai4,hcm,?_,?_⟩⟩,⟨rfl,rfl,rfl,by simp,(by grind [setRow_other,Value.ownBlock])⟩, .inl rfl⟩
   all_goals grind
  ·have holds: ∀ j u,xs[j]? =some u->w.cell? ((⟨g,0,none⟩:Addr).add j)=some u:=aam.cells (g:=g) rfl;have hr:=run_append_grow (P:=P) w t ty e i z ht hi hz ⟨g,0,none⟩ n cap xs aam.1 holds a m c news hl aeq (by omega) (by omega) (growslice_fits (by omega) ajG);have hgr:=grown cap (by omega) (Value.ownBlock (.slice (some ⟨g,0,none⟩) n cap));grind [Value.ownBlock]
theorem R.am6 {F:Fr} {st:St} {a:Act} {w:World} {G:AG} (h:R F st a w G) {id:Ah} {e:Aw} {E n:Nat} {p:Addr} (pu:Bool) (hcs:e.cs=[]):
 ∃ G',R F (st.new ⟨id,some (E,n,0+0),e.cs++[],pu⟩) a w G'/\G'.own id=some (.slice (some p) 0 0):=by
 refine⟨B9 F G id none (some (.slice (some p) 0 0)),?_,by simp [B9]⟩;rw [hcs];refine h.set ⟨id,some (E,n,0+0),[]++[],pu⟩ none _ ⟨rfl,rfl,rfl⟩ (le_refl _) (fun _ _ _=>rfl) (fun _ _ _=>rfl) (by grind) (fun _=>rfl) ?_;refine JX (Aw.adT _ _) ⟨by rw [OM];simp,_,by simp_all [B9,Aw.L_], .inl ⟨some p,rfl,rfl,by simp [B9,Aw.L_]⟩⟩
theorem IQ {P:Program} {w:World} (t ty e:TypeId) (i:TypeInfo) (z:Value) (size bytes:Nat) (ht:P.underlying t=some (.slice e)) (hi:P.info? e=some i) (hz:i.zero=some z)
 (u_:i.size=size) (hby:i.bytes=bytes) (hzs:z.cells.size=size) (hsz:0<size) (p:Addr)
 (a:Addr) (m c:Nat) (news:List Value) (hl:news.length=m*size) (aeq: ∀ j u,news[j]? =some u->w.cell? (a.add j)=some u) (hm:0<m)
 (h63:m<=maxLen) (ajG:m*bytes<=140737488355328):
 ∃ v' w',(Builtin.append_ #[t,t] ty #[.slice (some p) 0 0, .slice (some a) m c]).run P w= .ok v' w'/\w'.ownsRow 0 e size v' m news/\w.grownBy w' none/\
   ∀ b,v'.ownBlock=some b->w.heap.size<=b:=by
 subst u_ hby
 have hM:maxLen=9223372036854775807:=rfl;have hr:=run_append_grow (P:=P) w t ty e i z ht hi hz p 0 0 [] (by simp) (by grind) a m c news hl aeq (by omega) (by omega) (by simp_all [growslice_fits]);have hge:=grownCap_ge w (0+m) 0 e;have hcm:grownCap w (0+m) 0 e<=maxLen:=grownCap_le_maxLen w (0+m) 0 e (by omega);refine⟨_,_,hr,⟨hl, .inr ⟨w.heap.size,_,_,by simp,zero_le _,heap_alloc_new w.drew _,by grind,hcm,?_,?_⟩⟩,⟨rfl,rfl,rfl,by simp,fun k hk _=>heap_alloc_old w.drew _ hk⟩,(by grind [Value.ownBlock])⟩
 ·simp only [Array.size_append,List.size_toArray,size_zeroCells,hzs,hl, <-add_mul,List.length_nil,Nat.zero_add]at hge ⊢;grind
 grind
end Go.PL
namespace Go.PL
open Go Go.RowKit
mutual
def V.pure:V->Bool
 | .c x=>x.pure
 | .agg cs=>Ao cs
 | .tup vs=>Ci vs
 | .g b v=> !b||v.pure
 | .undef =>true
def Ci:List V->Bool
 | []=>true
 | v::vs=>v.pure&&Ci vs
end
mutual
theorem P0 (id:Ah): ∀ v:V,v.pure=true->v.p_ id=false
 | .c x,h=>by grind [V.p_,Ic,V.pure]
 | .agg cs,h=>by grind [V.p_,AP,V.pure]
 | .tup vs,h=>by simp only [V.p_];exact YY id vs (by simpa only [V.pure] using h)
 | .g b v,h=>by
   cases b with
   | false=>simp [V.p_]
   | true=>simp only [V.pure,Bool.not_true,Bool.false_or]at h;simp [V.p_,P0 id v h]
 | .undef,_=>by simp [V.p_]
theorem YY (id:Ah): ∀ vs:List V,Ci vs=true->LG id vs=false
 | [],_=>by simp [LG]
 | v::vs,h=>by simp only [Ci,and_eq_true]at h;simp [LG,P0 id v h.1,YY id vs h.2]
end
def im (av:Nat->Prop):AG:=⟨fun _=>none,fun _=>none,av⟩
theorem YZ {w:World} {av:Nat->Prop} {G:AG} (hG: ∀ b,b<w.heap.size->G.wr b->av b) {x:V} {v:Value} (hp:x.pure=true) (h:Ab w (im av) x v):Ab w G x v:=
 Ab.mono (G:=im av) (G':=G) ⟨le_refl _,fun _ _ _=>rfl,fun b hb hw=>hG b hb hw,fun _ _ _ _=>Cg.same rfl⟩ x v (fun id hid=>absurd (show x.p_ id=true from hid) (by rw [P0 id x hp];simp)) h
theorem tt {w:World} {av:Nat->Prop} {G:AG} (hG: ∀ b,b<w.heap.size->av b->G.wr b) {x:V} {v:Value} (hp:x.pure=true) (h:Ab w G x v):Ab w (im av) x v:=
 Ab.mono (G:=G) (G':=im av) ⟨le_refl _,fun _ _ _=>rfl,fun b hb hw=>hG b hb hw,fun _ _ _ _=>Cg.same rfl⟩ x v (fun id hid=>absurd (show x.p_ id=true from hid) (by rw [P0 id x hp];simp)) h
def KW (id:Ah) (len:Nat) (cs:List C):C->C
 | .e_ i=>if i=id then .sl len cs else .e_ i
 | .ptr i o=>if i=id then .any else .ptr i o
 | .bsl i o n=>if i=id then .any else .bsl i o n
 | .rsl i N o n=>if i=id then .any else .rsl i N o n
 | .bld i T=>if i=id then .any else .bld i T
 | .agA i=>if i=id then .any else .agA i
 | .clo f ds=>if BP id ds then .any else .clo f ds
 | .bmv f ds=>if BP id ds then .any else .bmv f ds
 | c=>c
mutual
def Mc (id:Ah) (len:Nat) (cs:List C):V->V
 | .c x=> .c (KW id len cs x)
 | .agg ds=> .agg (ds.map (KW id len cs))
 | .tup vs=> .tup (N6 id len cs vs)
 | .g b v=> .g b (Mc id len cs v)
 | .undef => .undef
def N6 (id:Ah) (len:Nat) (cs:List C):List V->List V
 | []=>[]
 | v::vs=>Mc id len cs v::N6 id len cs vs
end
def Aw.frz (id:Ah) (len:Nat) (cs:List C) (e:Aw):Aw:=match e with
 | ⟨i,r,ds,true⟩=>⟨i,r,ds,true⟩
 | ⟨i,r,ds,false⟩=>⟨i,r,ds.map (KW id len cs),false⟩
theorem Aw.ajI (id:Ah) (len:Nat) (cs:List C) (e:Aw):(e.frz id len cs).id =e.id:=by obtain⟨i,r,cs,_ | _⟩:=e<;>rfl
theorem Aw.asr {id:Ah} {len:Nat} {cs:List C} {e:Aw} {kv:List (Int×Int)} (h:e.cs=[.mp kv]):(e.frz id len cs).cs =[.mp kv]:=by
 obtain⟨i,r,ds,_ | _⟩:=e
 ·simp only at h;subst h;rfl
 ·exact h
theorem Aw.apW (id:Ah) (len:Nat) (cs:List C) (e:Aw):(e.frz id len cs).row =e.row:=by obtain⟨i,r,cs,_ | _⟩:=e<;>rfl
def St.freeze (st:St) (id:Ah):St:=
 match st.look id with
 | some e=>match e.row with
   | some (_,_,len)=>if !e.pu then st else
    {tm:=st.tm.map (Mc id len e.cs),so:=(st.so.filter (fun d=>d.id != id)).map (Aw.frz id len e.cs),gh:=N6 id len e.cs st.gh,pre:=st.pre}
   | none=>st
 | none=>st
section
variable {F:Fr} {w:World} {G:AG} {id:Ah} {len:Nat} {cs:List C}
structure Frz (F:Fr) (w:World) (G:AG) (id:Ah) (len:Nat) (cs:List C):Prop where
 own: ∀ v,G.own id=some v->Ad w (B9 F G id none none) (.sl len cs) v
 keeps:Co G (B9 F G id none none) w w
theorem mh (hf:Frz F w G id len cs) {c:C} {v:Value} (h:Ad w G c v):Ad w (B9 F G id none none) (KW id len cs c) v:=by
 have hm: ∀ d:C,d.p_ id=false->Ad w G d v->Ad w (B9 F G id none none) d v:=fun d hd hr=>
  Ad.mono hf.keeps d v (by grind [Dl]) hr
 cases c with
 | e_ i=>
   simp only [KW];split
   ·rename_i hi;subst hi;simp only [Ad]at h;exact hf.own v h.1
   grind [C.p_]
 | ptr i o=>
   simp only [KW];split
   ·simp only [Ad];exact h.one
   grind [C.p_]
 | bsl i o n=>
   simp only [KW];split
   ·simp only [Ad];exact h.one
   grind [C.p_]
 | rsl i N o n=>
   simp only [KW];split
   ·simp only [Ad];exact h.one
   grind [C.p_]
 | bld i T=>
   simp only [KW];split
   ·simp only [Ad];exact h.one
   grind [C.p_]
 | sl l ds=>exact hm (.sl l ds) (by simp [C.p_]) h
 | abQ ds o=>exact hm (.abQ ds o) (by simp [C.p_]) h
 | int k n=>exact hm (.int k n) (by simp [C.p_]) h
 | bool b=>exact hm (.bool b) (by simp [C.p_]) h
 | str s=>exact hm (.str s) (by simp [C.p_]) h
 | acu=>exact hm (.acu) (by simp [C.p_]) h
 | aak=>exact hm (.aak) (by simp [C.p_]) h
 | s_=>exact hm (.s_) (by simp [C.p_]) h
 | fn f=>exact hm (.fn f) (by simp [C.p_]) h
 | clo f ds=>
   simp only [KW];split
   ·simp only [Ad];exact h.one
   grind [C.p_]
 | bmv f ds=>
   simp only [KW];split
   ·simp only [Ad];exact h.one
   grind [C.p_]
 | held=>exact hm (.held) (by simp [C.p_]) h
 | any=>exact hm (.any) (by simp [C.p_]) h
 | agA i=>
   simp only [KW];split
   ·simp only [Ad];exact h.one
   grind [C.p_]
 | mp kv=>exact hm (.mp kv) (by simp [C.p_]) h
 | agK g o=>exact hm (.agK g o) (by simp [C.p_]) h
 | isl E n l ds=>exact hm (.isl E n l ds) (by simp [C.p_]) h
theorem Y0 (hf:Frz F w G id len cs): ∀ {ds:List C} {vs:List Value},Aj w G ds vs->Aj w (B9 F G id none none) (ds.map (KW id len cs)) vs
 | [],[],_=>by simp [Aj]
 | [],_::_,h=>by simp [Aj]at h
 | _::_,[],h=>by simp [Aj]at h
 | c::ds,v::vs,h=>by simp only [Aj]at h;simp only [map_cons,Aj];exact⟨mh hf h.1,Y0 hf h.2⟩
mutual
theorem Y1 (hf:Frz F w G id len cs): ∀ (x:V) (v:Value),Ab w G x v->Ab w (B9 F G id none none) (Mc id len cs x) v
 | .c x,v,h=>by grind [Ab,Mc,mh]
 | .agg ds,v,h=>by grind [Ab,Mc,Y0]
 | .tup vs,v,h=>by simp only [Ab,Mc]at h ⊢;obtain⟨arr,e,hr⟩:=h;exact⟨arr,e,UU hf vs _ hr⟩
 | .g b x,v,h=>by
   simp only [Ab,Mc]at h ⊢;split
   all_goals simp_all [Y1]
 | .undef,_,_=>by simp only [Ab,Mc]
theorem UU (hf:Frz F w G id len cs): ∀ (xs:List V) (vs:List Value),Aq w G xs vs->Aq w (B9 F G id none none) (N6 id len cs xs) vs
 | [],_,h=>by grind [Aq,N6]
 | x::xs,vs,h=>by simp only [Aq,N6]at h ⊢;obtain⟨v,r,e,h1,h2⟩:=h;exact⟨v,r,e,Y1 hf x v h1,UU hf xs r h2⟩
end
end
theorem R.frz {F:Fr} {st:St} {a:Act} {w:World} {G:AG} (h:R F st a w G) {id:Ah} {e:Aw} (he:st.look id=some e) {E n len:Nat} (z_:e.row=some (E,n,len)) (hpu:Ao e.cs=true):
 Frz F w G id len e.cs where
 keeps:=h.keeps id none none (le_refl _) (fun _ _ _=>rfl) (by grind)
 own:=by
  intro v hv;obtain⟨hm,hid⟩:=Bj he;have hE:=h.store e hm;unfold Bc at hE;rw [z_]at hE;obtain⟨hl,v',h1,h2⟩:=hE;rw [hid,hv]at h1;injection h1 with h1;subst h1;have azf:=AP id e.cs hpu;simp only [Ad];refine⟨hpu,?_⟩;rcases h2 with ⟨p,rfl,h0,_⟩ | ⟨b,cap,cur,rfl,e2,e3,e4,e5,e6,e7⟩
  ·refine⟨p,0,by rw [h0],by omega,by grind,fun _=>?_, .inl h0⟩;simp_all
  ·rw [hid]at e2;refine⟨_,cap,rfl,e4,e5,fun h0=>?_, .inr ⟨b,0,rfl,?_,h.lt id b e2,?_⟩⟩
   ·simp_all
   ·simp only [B9];rintro(q | ⟨i,q⟩)
    ·rcases h.new id b e2 with q2 | q2
     ·have:=h.aaS b q;omega
     ·exact h.aah b q2 q
    ·split at q
     ·cases q
     ·rename_i hi;exact hi (h.inj i id b q e2)
   ·have hk:=h.keeps id none none (le_refl _) (fun _ _ _=>rfl) (by grind);exact An.mono hk _ _ _ (by grind [Dl]) (fun _=>rfl) e7
def St.acs (st:St) (id:Ah):Bool:=
 match st.look id with
 | some e=>match e.row with
   | some _=>e.pu
   | none=>false
 | none=>false
theorem R.freeze {F:Fr} {st:St} {a:Act} {w:World} {G:AG} (h:R F st a w G) (id:Ah):
 ∃ G',R F (st.freeze id) a w G'/\(∀ b,G'.wr b->G.wr b)/\(st.acs id=true-> ∀ b,G.m_ id=some b-> ¬G'.wr b):=by
 have hid: ∀ b,G.wr b->G.wr b:=fun _ q=>q;unfold St.freeze;split
 ·rename_i e he;split
  ·rename_i E n len z_;split
   ·grind [St.acs]
   ·rename_i azf;have hm0:=(Bj he).1;have hf:=h.frz he z_ (h.x_ e hm0 (by grind));refine⟨B9 F G id none none,h.rename id none none ⟨rfl,rfl,rfl⟩ (le_refl _) (fun _ _ _=>rfl) (by grind) _ (by simp) ?_ ?_ ?_ ?_ ?_ ?_,?_,?_⟩
    rotate_right 2
    ·intro b hb;simp only [B9]at hb;rw [h.wr];grind
    ·intro _ b hb hw;simp only [B9]at hw;rcases hw with q | ⟨i,q⟩
     ·rcases h.new id b hb with q2 | q2
      ·have:=h.aaS b q;omega
      ·exact h.aah b q2 q
     ·split at q
      ·cases q
      ·rename_i hi;exact hi (h.inj i id b q hb)
    ·intro i;simp only;rw [F4 (st:=st) (by simp [Mc])];exact Y1 hf _ _ (h.v_ i)
    ·exact UU hf _ _ h.F_
    ·intro d hd;simp only [mem_map,mem_filter]at hd;obtain⟨d',⟨hd',Tj⟩,rfl⟩:=hd;have:=h.x_ d' hd';obtain⟨i,r,ds,pu⟩:=d';cases pu with
     | true=>exact this
     | false=>intro hq;cases hq
    ·intro d hd;simp only [mem_map,mem_filter]at hd;obtain⟨d',⟨hd',Tj⟩,rfl⟩:=hd;have adF:d'.id ≠ id:=by grind
     have hE:=h.store d' hd';have hpd:=h.x_ d' hd';have z_: ∀ {b o},An w G d'.cs b o->An w (B9 F G id none none) (d'.frz id len e.cs).cs b o:=fun hr=>by
      obtain⟨vs,q1,q2⟩:=hr.list;obtain⟨i,r,ds,pu⟩:=d';cases pu with
      | true=>exact An.mono hf.keeps _ _ _ (Dl (fun j hj he=>by subst he;have hj':BP j ds=true:=hj;rw [AP j ds (hpd rfl)]at hj';cases hj')) (fun _=>rfl) hr
      | false=>exact An.aaA (Y0 hf q1) q2
     have hlen:(d'.frz id len e.cs).cs.length =d'.cs.length:=by obtain⟨i,r,ds,_ | _⟩:=d'<;>simp [Aw.frz]
     have hfi:=Aw.ajI id len e.cs d';have hfr:=Aw.apW id len e.cs d';unfold Bc at hE ⊢;rw [hfr];have eb:(B9 F G id none none).m_ d'.id=G.m_ d'.id:=by simp [B9,adF]
     have eo:(B9 F G id none none).own d'.id=G.own d'.id:=by simp [B9,adF]
     rw [hfi,eb,eo];split at hE
     ·obtain⟨b,q1,q2⟩:=hE;refine⟨b,q1,?_⟩;rcases q2 with ⟨kv,es,q2,q3⟩ | ⟨T,cur,q2,q3,q4⟩
      ·exact .inl ⟨kv,es,Aw.asr q2,q3⟩
      ·exact .inr ⟨T,cur,q2,by rw [hlen];exact q3,z_ q4⟩
     ·obtain⟨hl,v,q1,q2⟩:=hE;refine⟨by grind,v,q1,?_⟩;rcases q2 with q2 | ⟨b,cap,cur,e1,e2,e3,e4,e5,e6,e7⟩
      ·grind
      ·exact .inr ⟨b,cap,cur,e1,e2,e3,e4,e5,e6,z_ e7⟩
    ·intro d hd;simp only [mem_map,mem_filter]at hd;obtain⟨d',⟨hd',Tj⟩,rfl⟩:=hd;have adF:d'.id ≠ id:=by grind
     have hmk: ∀ k,BO k d'.id ≠ id:=fun k q=>by have h2:=(h.deep e hm0).1;rw [(Bj he).2, <-q]at h2;cases h2
     have hD:BC w G (d'.frz id len e.cs):=by
      have h1:=h.deep d' hd';obtain⟨i,r,ds,pu⟩:=d';cases pu with
      | true=>exact h1
      | false=>exact⟨h1.1,fun hq=>absurd (h1.2 hq).1 (by simp)⟩
     have hfi:=Aw.ajI id len e.cs d';exact BC.mono hf.keeps (by grind [B9]) (by grind [B9]) (fun _ _=>rfl) (fun _ _ _ _=>rfl) hD
    ·have:(((st.so.filter (fun d=>d.id != id)).map (Aw.frz id len e.cs)).map (·.id))=(st.so.filter (fun d=>d.id != id)).map (·.id):=by simp_all [Aw.ajI]
     simp only;rw [this];exact List.Sublist.nodup (by grind [List.filter_sublist]) h.nodup
  grind [St.acs]
 grind [St.acs]
end Go.PL
namespace Go.PL
open Go Go.RowKit
theorem WA {w:World} {G:AG}: ∀ {cs:List C} {vs:List Value},cs.length=vs.length->(∀ (i:Nat) (c:C) (v:Value),cs[i]? =some c->vs[i]? =some v->Ad w G c v)->Aj w G cs vs
 | [],[],_,_=>by simp [Aj]
 | [],_::_,h,_=>by simp at h
 | _::_,[],h,_=>by simp at h
 | c::cs,v::vs,h,hr=>by simp only [Aj];exact⟨hr 0 c v (by simp) (by simp),WA (by simpa using h) (fun i c' v' h1 h2=>hr (i+1) c' v' (by simpa using h1) (by simpa using h2))⟩
def Cj (z:List C) (k:Nat):List C:=(List.range (k*z.length)).map (fun i=>z.getD (i % z.length) .any)
theorem Md {w:World} {G:AG} {z:List C} {zv:Array Value} (h:Aj w G z zv.toList) (hz:0<z.length) (k:Nat):
 Aj w G (Cj z k) ((Array.range (k*zv.size)).map (zv[· % zv.size]!)).toList :=by
 have hl:z.length=zv.size:=by simpa using h.length
 refine WA (by simp [Cj,hl]) (fun i c v h1 h2=>?_);simp only [Cj,List.getElem?_map]at h1;simp only [Array.toList_map,List.getElem?_map,Array.toList_range]at h2;by_cases hi:i<k*z.length
 ·rw [List.getElem?_range (by omega)]at h1;rw [List.getElem?_range (by rw [<-hl];omega)]at h2;simp only [map_some,injEq]at h1 h2;have hm:i % z.length<z.length:=Nat.mod_lt _ hz;obtain⟨v',q1,q2⟩:=h.get (i % z.length) z[i % z.length] (by simp [hm]);grind
 grind
theorem mi: ∀ {v:Value} {c:C},CW v=some c->c.pure=true:=by intro v c h;unfold CW at h;split at h<;>first | (cases h;done) | (injection h with h;subst h;rfl)
theorem WB: ∀ {vs:List Value} {cs:List C},D5 vs=some cs->Ao cs=true
 | [],cs,h=>by simp [D5]at h;subst h;rfl
 | v::vs,cs,h=>by
   unfold D5 at h;split at h
   ·rename_i c cs' h1 h2;injection h with h;subst h;simp only [Ao,mi h1,WB h2,Bool.and_self]
   ·cases h
theorem WC {z:List C} (h:Ao z=true) (k:Nat):Ao (Cj z k)=true:=PY _ (fun _=>ve _ h) _
def Y2:Value->Option C
 | .slice none 0 0=>some .s_
 | v=>CW v
def Jd:List Value->Option (List C)
 | []=>some []
 | v::vs=>match Y2 v,Jd vs with
   | some c,some cs=>some (c::cs)
   | _,_=>none
theorem mj {w:World} {G:AG}: ∀ {v:Value} {c:C},Y2 v=some c->Ad w G c v:=by grind [Y2,Ad,Q7]
theorem K6 {w:World} {G:AG}: ∀ {vs:List Value} {cs:List C},Jd vs=some cs->Aj w G cs vs
 | [],cs,h=>by grind [Jd,Aj]
 | v::vs,cs,h=>by
   unfold Jd at h;split at h
   ·rename_i c cs' h1 h2;injection h with h;subst h;simp only [Aj];exact⟨mj h1,K6 h2⟩
   ·cases h
def Y3 (P:Program) (t:TypeId):Option (List C):=
 match P.info? t with
 | some i=>match i.zero with
   | some z=>Jd z.cells.toList
   | none=>none
 | none=>none
theorem Rh {P:Program} {t:TypeId} {cs:List C} (h:Y3 P t=some cs): ∃ i z,P.info? t=some i/\i.zero=some z/\Jd z.cells.toList=some cs:=by grind [Y3]
def Hf:C->C
 | .s_ => .sl 0 []
 | c=>c
def V.agi:V->V
 | .c x=> .c (Hf x)
 | .agg cs=> .agg (cs.map Hf)
 | v=>v
def WD (p:Nat×V):Nat×V:=(p.1,p.2.agi)
theorem Jx {w:World} {G:AG} {c:C} {v:Value} (h:Ad w G c v):Ad w G (Hf c) v:=by
 cases c<;>try exact h
 simp only [Ad]at h;subst h;simp only [Hf,Ad];exact⟨rfl,none,0,rfl,le_refl _,zero_le _,fun _=>trivial, .inl trivial⟩
theorem UV {w:World} {G:AG}: ∀ {cs:List C} {vs:List Value},Aj w G cs vs->Aj w G (cs.map Hf) vs
 | [],[],_=>by simp [Aj]
 | [],_::_,h=>by grind
 | _::_,[],h=>by simp [Aj]at h
 | c::cs,v::vs,h=>by simp only [Aj]at h;simp only [map_cons,Aj];exact⟨Jx h.1,UV h.2⟩
theorem vj {w:World} {G:AG} {x:V} {v:Value} (h:Ab w G x v):Ab w G x.agi v:=by cases x<;>grind [V.agi,Ab,Jx,UV]
structure Eff (P:Program) (F:Fr) (o:Oper) (a:Act) (w:World) (an:St):Prop where
 out: ∃ nx w' G',(execOp a.eval o).run P w= .ok nx w'/\((∃ v,nx= .value v/\R F an (a.put o.dst v) w' G')\/(nx= .skip /\R F an (a.put o.dst Go.undef) w' G'))
def St.parts (st:St) (g:Bool) (ps:List (Nat×Operand)):Prop×List (Nat×V):=
 match ps with
 | []=>(True,[])
 | (i,x)::r=>((st.arg g x).1/\(St.parts st g r).1,(i,(st.arg g x).2)::(St.parts st g r).2)
theorem R.parts {F:Fr} {st:St} {a:Act} {w:World} {G:AG} (h:R F st a w G) {g:Bool} (hg:g=true): ∀ {ps:List (Nat×Operand)},(st.parts g ps).1->OD w G (st.parts g ps).2 (ps.map fun(i,x)=>(i,a.eval x))
 | [],_=>by simp [St.parts,OD]
 | (i,x)::r,hs=>by simp only [St.parts]at hs ⊢;simp only [map_cons,OD];exact⟨trivial,h.arg hg hs.1,h.parts hg hs.2⟩
def plc (P:Program) (t:TypeId) (i:Nat):Option (Nat×Nat):=
 match P.underlying t with
 | some (.array _ e)=>match P.info? e with
   | some inf=>some (i*inf.size,inf.size)
   | none=>none
 | some (.struct fs)=>match fs.toList.mapM (fun f=>(P.info? f.type).map fun i=>(f.offset,i.size))with
   | some ps=>ps[i]?
   | none=>none
 | _=>none
def tu (P:Program) (t:TypeId):Bool:=
 match P.underlying t with
 | some (.array _ e)=>(P.info? e).isSome
 | some (.struct fs)=>(fs.toList.mapM (fun f=>(P.info? f.type).map fun i=>(f.offset,i.size))).isSome
 | _=>false
def ON (P:Program) (st:St) (g:Bool) (t:TypeId) (ps:List (Nat×Operand)):Prop×V:=
 match Y3 P t with
 | some z=>match JZ (plc P t) z (st.parts g ps).2 with
   | some cs=>((st.parts g ps).1/\tu P t=true, .agg cs)
   | none=>no
 | none=>no
def Sv (st:St) (n:Nat):V->Option (Nat×List C×Bool)
 | .c (.sl m cs)=>if cs.length=m*n then some (m,cs,true)else none
 | .c (.e_ id)=>match st.look id with
   | some e=>match e.row with
     | some (_,n',m)=>if n'=n then some (m,e.cs,e.pu)else none
     | none=>none
   | none=>none
 | _=>none
def Ej (P:Program) (t:TypeId):Option (TypeId×Nat×Nat):=
 match P.underlying t with
 | some (.slice e)=>match P.info? e with
   | some i=>match i.zero with
     | some z=>if z.cells.size=i.size then some (e,i.size,i.bytes)else none
     | none=>none
   | none=>none
 | _=>none
def Hk (P:Program) (st:St) (T:TypeId) (x y:V):Prop×St:=
 match x,y.cells,K0 P T with
 | .c (.ptr id off),some cs,some (_,n)=>match st.look id with
   | some e=>(cs.length=n/\off+n<=e.cs.length,st.adw id (e.cs.take off++cs++e.cs.drop (off+cs.length)) (Ao cs))
   | none=>(False,st)
 | _,_,_=>(False,st)
def Gy (P:Program) (st:St) (d:Nat) (t:TypeId) (s x:V):Prop×St:=
 match s,Ej P t with
 | .c (.e_ id),some (E,n,by')=>match st.look id,Sv st n x with
   | some e,some (m,cs,q)=>match e.row with
     | some (E',n',len)=>(E'=E/\n'=n/\0<n/\(len+m)*by'<=140737488355328/\len+m<=maxLen,(st.new ⟨id,some (E,n,len+m),e.cs++cs,e.pu&&q⟩).put (some d) (.c (.e_ id)))
     | none=>(False,st)
   | _,_=>(False,st)
 | _,_=>(False,st)
def WE (P:Program) (st:St) (d:Nat) (t:TypeId) (x y:V):Prop×St:=
 match x,y,Dk P t with
 | .c (.bsl id off len), .c (.bsl id2 agz abo),some (_,1)=>match st.look id,st.look id2 with
   | some e,some e2=>(off+Nat.min abo len<=e.cs.length/\agz+Nat.min abo len<=e2.cs.length,
    (st.adw id (e.cs.take off++(e2.cs.drop agz).take (Nat.min abo len)++e.cs.drop (off+((e2.cs.drop agz).take (Nat.min abo len)).length)) (Ao ((e2.cs.drop agz).take (Nat.min abo len)))).put (some d) (.c (.int .i64 (Nat.min abo len:Nat))))
   | _,_=>(False,st)
 | _,_,_=>(False,st)
def K7 (P:Program) (st:St) (d:Nat) (t:TypeId) (l c:V):Prop×St:=
 match l,c,Ej P t with
 | .c (.int _ l), .c (.int _ c),some (E,n,by')=>match QK P E with
   | some z=>(0<=l/\l<=c/\c*by'<=140737488355328/\c<=maxLen/\z.length=n/\0<n,(st.new ⟨d::st.pre,some (E,n,l.toNat),Cj z l.toNat,true⟩).put (some d) (.c (.e_ (d::st.pre))))
   | none=>(False,st)
 | _,_,_=>(False,st)
def Bh (P:Program) (st:St) (d:Nat) (t:TypeId) (len:Nat) (ps:List (Nat×Operand)):Prop×St:=
 match Ej P t with
 | some (E,n,_)=>match QK P E with
   | some z=>match JZ (fun i=>some (i*n,n)) (Cj z len) ((st.parts true ps).2.map WD)with
     | some cs=>((st.parts true ps).1/\z.length=n/\0<n/\len*n<=2 ^ 24,(st.new ⟨d::st.pre,some (E,n,len),cs,Ao cs⟩).put (some d) (.c (.e_ (d::st.pre))))
     | none=>(False,st)
   | none=>(False,st)
 | none=>(False,st)
def qr:Operand->V->V
 | .const (.slice none 0 0),_=> .c .s_
 | _,v=>v
def XN (st:St) (x v:V):V:=
 match v with
 | .c .s_ =>match x with
   | .c (.ptr id _)=>match st.look id with
     | some e=>match e.row with
       | some _=> .c (.sl 0 [])
       | none=>v
     | none=>v
   | _=>v
 | _=>v
theorem ml {w:World} {G:AG} {st:St} {x v:V} {u:Value} (h:Ab w G v u):Ab w G (XN st x v) u:=by
 unfold XN;split
 ·have h2:Ab w G (.c (.sl 0 [])) u:=by simp only [Ab]at h ⊢;exact Jx h
  grind
 ·exact h
theorem mn {w:World} {G:AG} {a:Act} {y:Operand} {v:V} (h:Ab w G v (a.eval y)):Ab w G (qr y v) (a.eval y):=by
 unfold qr;split
 ·simp only [Ab,Ad];rfl
 ·exact h
def ef (P:Program) (st:St) (o:Oper):Prop×St:=
 match o.op with
 | .store T x y=>let r:=Hk P st T (st.arg true x).2 (XN st (st.arg true x).2 (qr y (st.arg true y).2))
   ((st.arg true x).1/\(st.arg true y).1/\r.1,r.2.put o.dst .undef)
 | op=>match o.dst with
   | none=>(False,st)
   | some d=>match op with
     | .alloc T=>match Y3 P T with
       | some cs=>(True,(st.new ⟨d::st.pre,none,cs,false⟩).put (some d) (.c (.ptr (d::st.pre) 0)))
       | none=>(False,st)
     | .box T x=>match (st.arg true x).2.cells with
       | some cs=>((st.arg true x).1/\T=T,(st.new ⟨d::st.pre,none,cs,false⟩).put (some d) (.c (.ptr (d::st.pre) 0)))
       | none=>(False,st)
     | .assign (.const (.slice none 0 0))=>match Dk P o.type with
       | some (E,n)=>(True,(st.new ⟨d::st.pre,some (E,n,0),[],true⟩).put (some d) (.c (.e_ (d::st.pre))))
       | none=>(False,st)
     | .buildSlice t len ps=>Bh P st d t len ps.toList
     | .makeSlice t l c=>let r:=K7 P st d t (st.arg true l).2 (st.arg true c).2
       ((st.arg true l).1/\(st.arg true c).1/\r.1,r.2)
     | .call c=>match c.callee,c.args.toList,c.argTypes.toList with
       | .builtin .append,[s,x],[t,t']=>let r:=Gy P st d t (st.arg true s).2 (st.arg true x).2
         ((st.arg true s).1/\(st.arg true x).1/\t=t'/\r.1,r.2)
       | .builtin .copy,[s,x],[t,t']=>let r:=WE P st d t (st.arg true s).2 (st.arg true x).2
         ((st.arg true s).1/\(st.arg true x).1/\t'=t'/\r.1,r.2)
       | _,_,_=>(False,st)
     | _=>(False,st)
theorem P1 {w:World} {G:AG}: ∀ {xs:List (Nat×V)} {ys:List (Nat×Value)},OD w G xs ys->OD w G (xs.map WD) ys
 | [],[],h=>h
 | (i,x)::xs,(j,v)::ys,h=>by simp only [OD]at h;simp only [map_cons,WD,OD];exact⟨h.1,vj h.2.1,P1 h.2.2⟩
 | [],_::_,h=>by grind
 | _::_,[],h=>by simp [OD]at h
theorem i8 {P:Program} {F:Fr} {st:St} {a:Act} {w:World} {G:AG} (h:R F st a w G) {g:Bool} (hg:g=true) {t:TypeId} {ps:Array (Nat×Operand)} (hs:(ON P st g t ps.toList).1):
 ∃ v,Ab w G (ON P st g t ps.toList).2 v/\ ∀ w',(Instr.build t (ps.map fun(i,x)=>(i,a.eval x))).run P w'= .ok v w':=by
 unfold ON at *;split at hs
 ·rename_i z hz;split at hs
  ·rename_i cs hf;obtain⟨i,zv,hi,hzv,hc⟩:=Rh hz;obtain⟨abh,q1,q2⟩:=J0 hf (h.parts hg hs.1) (K6 (w:=w) (G:=G) hc);refine⟨.agg abh,⟨abh,rfl,q2⟩,fun w'=>run_build w' t _ abh ?_⟩;have hok:=hs.2;unfold tu at hok;unfold Program.built;rw [hi];split at hok
   ·rename_i n e hu;cases hie:P.info? e with
    | none=>grind
    | some ie=>
      simp only [hu,hzv,hie];have e1:plc P t=fun i=>some (i*ie.size,ie.size):=by grind [plc]
      simp_all
   ·rename_i fs hu;cases hm:fs.toList.mapM (fun f=>(P.info? f.type).map fun i=>(f.offset,i.size))with
    | none=>grind
    | some pl=>
      simp only [hu,hzv,hm];have e1:plc P t=fun i=>pl[i]? :=by grind [plc]
      simp_all
   ·cases hok
  grind
 grind
theorem DD {P:Program} {t e:TypeId} {n by':Nat} (h:Ej P t=some (e,n,by')):
 ∃ i z,P.underlying t=some (.slice e)/\P.info? e=some i/\i.zero=some z/\i.size=n/\i.bytes=by'/\z.cells.size=n:=by
 unfold Ej at h;grind
theorem Sw {P:Program} {F:Fr} {st:St} {a:Act} {w:World} {G:AG} (h:R F st a w G) {T:TypeId} {x y:V} {u v:Value} (hx:Ab w G x u) (hy:Ab w G y v) (hs:(Hk P st T x y).1):
 ∃ w',(Instr.storeAt T u v).run P w= .ok () w'/\R F (Hk P st T x y).2 a w' G:=by
 unfold Hk at *;split at hs
 ·rename_i id off cs ag n hc ht;split at hs
  ·rename_i e he;obtain⟨h1,h2⟩:=hs;obtain⟨d,i,hu,hd,hi,hsz⟩:=C7 ht;simp only [Ab,Ad]at hx;obtain⟨b,hb,rfl⟩:=hx;have hv:=JY hy hc;have hlv:=hv.length;obtain⟨cur,T',agJ,amP,hR⟩:=h.stored he hb (off:=off) (xs:=cs) hv (by omega);refine⟨_,?_,hR⟩;have hst:=run_storeCells_at P b off T' v.cells.toList 0 cur w agJ (by simpa using amP) (Aj.one hv);simp only [add_zero]at hst;simp_all [Instr.storeAt,Instr.sureAddr,storeVar,sizeOf,typeInfo]
  grind
 grind
theorem mo {F:Fr} {st:St} {a:Act} {w:World} {G:AG} (h:R F st a w G) {n m:Nat} {x:V} {cs:List C} {q:Bool} {u:Value} (hs:Sv st n x=some (m,cs,q)) (hx:Ab w G x u):
 (q=true->Ao cs=true)/\ ∃ ad cap vs,u= .slice ad m cap/\Aj w G cs vs/\vs.length=m*n/\(ad=none->m=0)/\ ∀ b,ad=some b-> ∀ j v,vs[j]? =some v->w.cell? (b.add j)=some v:=by
 unfold Sv at hs;split at hs
 ·split at hs
  ·rename_i hl;simp only [injEq,Prod.mk.injEq]at hs;obtain⟨rfl,rfl,rfl⟩:=hs;simp only [Ab,Ad]at hx;refine⟨fun _=>hx.1,?_⟩;obtain⟨_,ad,cap,rfl,_,_,h0,h1 | ⟨b,o,rfl,_,_,hr⟩⟩:=hx
   ·have:=h0 h1;subst this;exact⟨ad,cap,[],rfl,by simp [Aj],by grind,fun _=>h1,(by grind)⟩
   ·obtain⟨vs,q1,q2⟩:=hr.list;have:=q1.length;exact⟨_,cap,vs,rfl,q1,by omega,(by simp),fun b' hb' j v hv=>by injection hb' with hb';subst hb';rw [Addr.add_mid];exact q2 j v hv⟩
  ·cases hs
 ·split at hs
  ·rename_i e hlk;split at hs
   ·rename_i E n' m' z_;split at hs
    ·rename_i hn;simp only [injEq,Prod.mk.injEq]at hs;obtain⟨rfl,rfl,rfl⟩:=hs;obtain⟨hm,hid⟩:=Bj hlk;refine⟨h.x_ e hm,?_⟩;have hE:=h.store e hm;obtain⟨v,vs,k1,k2,k3,k4⟩:=DB z_ hE;simp only [Ab,Ad]at hx;rw [hid]at k1;rw [k1]at hx;obtain⟨hx,_⟩:=hx;injection hx with hx;subst hx;rcases k4 with ⟨k4,k5⟩ | ⟨p,rfl,q0,rfl,_⟩
     rotate_left
     ·grind
     rcases k4.2 with ⟨q,q0⟩ | ⟨g,cap,cur,q,_⟩
     ·have:vs=[]:=by have:=k4.1;simp_all
      grind
     ·refine⟨_,cap,vs,q,k3,by rw [k4.1,hn],(by simp),fun b hb j v hv=>?_⟩;injection hb with hb;subst hb;exact k4.cells (by rw [q];rfl) j v hv
    ·cases hs
   ·cases hs
  ·cases hs
 ·cases hs
theorem dh {P:Program} {F:Fr} {st:St} {a:Act} {w:World} {G:AG} (h:R F st a w G) {d:Nat} {t ty:TypeId} {s x:V} {u v:Value} (hx:Ab w G s u) (hy:Ab w G x v) (hs:(Gy P st d t s x).1):
 ∃ r w' G',(Builtin.append_ #[t,t] ty #[u,v]).run P w= .ok r w'/\R F (Gy P st d t s x).2 (a.put (some d) r) w' G':=by
 unfold Gy at *;split at hs
 ·rename_i id E n by' abq;split at hs
  ·rename_i e m cs q hlk ar4;split at hs
   ·rename_i E' n' len z_;obtain⟨rfl,rfl,IT,ajG,asa⟩:=hs;obtain⟨i,z,hu,hi,hz,hsz,hby,hzs⟩:=DD abq;obtain⟨hm,hid⟩:=Bj hlk;obtain⟨u',xs,k1,k2,k3,k4⟩:=DB z_ (h.store e hm);simp only [Ab,Ad]at hx;rw [hid]at k1;rw [k1]at hx;obtain⟨hx,_⟩:=hx;injection hx with hx;subst hx;obtain⟨hqp,ad,cap,us,rfl,q1,q2,q3,q4⟩:=mo h ar4 hy;rcases k4 with ⟨k4,k5⟩ | ⟨p,rfl,rfl,rfl,k5⟩
    rotate_left
    ·rw [hid]at k5;have hcs:e.cs=[]:=List.length_eq_zero_iff.1 (by simpa using k3.length);by_cases hm0:m=0
     ·subst hm0;have hus:us=[]:=by grind
      subst hus;have hc0:cs=[]:=List.length_eq_zero_iff.1 (by simpa using q1.length);subst hc0;have q_:(Builtin.append_ #[t,t] ty #[.slice (some p) 0 0, .slice ad 0 cap]).run P w= .ok (.slice (some p) 0 0) w:=by cases ad<;>simp [Builtin.append_,run_underlying hu,sizeOf,typeInfo,program,Sem.run,hi,Builtin.lenOf,Builtin.firstCells,storeCells,loadCells,loadCellsFrom]
      obtain⟨G',g1,g2⟩:=h.am6 (id:=id) (e:=e) (E:=E') (n:=n') (p:=p) (e.pu&&q) hcs;refine⟨_,w,G',q_,?_⟩;exact R.put (d:=some d) g1 (show Ab w G' (V.c (C.e_ id)) (.slice (some p) 0 0) by simp only [Ab,Ad];grind)
     ·obtain⟨b,rfl⟩: ∃ b,ad=some b:=by cases ad<;>grind
      obtain⟨r,w',q_,aam,hg,hfr⟩:=IQ (P:=P) (w:=w) t ty E' i z n' by' hu hi hz hsz hby hzs IT p b m cap us q2 (q4 b rfl) (by omega) (by omega) (by grind);obtain⟨G',g1,g2,g3⟩:=h.akH (len:=0) (v:= .slice none 0 0) (xs:=[]) hlk hqp k5.symm k3 q1 ⟨by simp, .inl ⟨rfl,rfl⟩⟩ (by simpa using aam) hg (.inr hfr);refine⟨r,w',G',q_,?_⟩;grind [R.put,Ab,Ad]
    rw [hid]at k5;have main: ∀ r w',(Builtin.append_ #[t,t] ty #[u', .slice ad m cap]).run P w= .ok r w'->w'.ownsRow 0 E' n' r (len+m) (xs++us)->w.grownBy w' u'.ownBlock->(r.ownBlock=u'.ownBlock\/ ∀ b,r.ownBlock=some b->w.heap.size<=b)->
     ∃ r w' G',(Builtin.append_ #[t,t] ty #[u', .slice ad m cap]).run P w= .ok r w'/\R F ((st.new ⟨id,some (E',n',len+m),e.cs++cs,e.pu&&q⟩).put (some d) (.c (.e_ id))) (a.put (some d) r) w' G':=by
     intro r w' q_ aam hg hfr;obtain⟨G',g1,g2,g3⟩:=h.akH hlk hqp k5 k3 q1 k4 aam hg hfr;exact⟨r,w',G',q_,g1.put (by grind [Ab,Ad])⟩
    cases ad with
    | some b=>
      obtain⟨r,w',q_,aam,hg,hfr⟩:=IP (P:=P) (w:=w) t ty E' i z n' by' hu hi hz hsz hby hzs IT u' len xs k4 b m cap us q2 (q4 b rfl) (Aj.one q1) asa ajG;grind
    | none=>
      have hm0:=q3 rfl;subst hm0;have hus:us=[]:=by grind
      subst hus;refine main u' w ?_ (by grind) ⟨rfl,rfl,rfl,le_refl _,fun _ _ _=>rfl⟩ (.inl rfl);have hcap: ∃ bs c,u'= .slice bs len c/\len<=c/\(∀ b,bs=some b->b.spot=none):=by
       rcases k4.2 with ⟨q,q0⟩ | ⟨g,c,cur,q,_,_,q5,_⟩
       all_goals grind
      obtain⟨bs,c,rfl,hc,_⟩:=hcap;cases bs<;>simp [Builtin.append_,run_underlying hu,sizeOf,typeInfo,program,Sem.run,hi,Builtin.lenOf,Builtin.firstCells,hc,storeCells]
   grind
  grind
 grind
theorem mq {P:Program} {F:Fr} {st:St} {a:Act} {w:World} {G:AG} (h:R F st a w G) {d:Nat} {t t' ty:TypeId} {x y:V} {u v:Value} (hx:Ab w G x u) (hy:Ab w G y v) (hs:(WE P st d t x y).1):
 ∃ r w' G',(Builtin.copy_ #[t,t'] ty #[u,v]).run P w= .ok r w'/\R F (WE P st d t x y).2 (a.put (some d) r) w' G':=by
 unfold WE at *;split at hs
 ·rename_i id off len id2 agz abo E abq;split at hs
  ·rename_i e e2 he he2;obtain⟨q1,q2⟩:=hs;obtain⟨hu,inf,hi,hsz⟩:=DI abq;simp only [Ab,Ad]at hx hy;obtain⟨b,cap,o,hb,rfl,_,ho1,ho⟩:=hx;obtain⟨b2,alL,o2,hb2,rfl,_,_,ho2⟩:=hy;obtain⟨hm2,azs⟩:=Bj he2;obtain⟨aH3,T2,_,_,auU⟩:=(h.store e2 hm2).row (Yq he2) (by rw [azs];exact hb2);obtain⟨vs,k1,k2⟩:=((auU.drop agz).take (Nat.min abo len)).list;have hlx:=k1.length;have hl:((e2.cs.drop agz).take (Nat.min abo len)).length =Nat.min abo len:=by grind
   obtain⟨cur,T',agJ,amP,hR⟩:=h.stored he hb (off:=off) k1 (by grind);have hw:w.setRow b (cur.toList.take o++vs++cur.toList.drop (o+vs.length)).toArray =w.setRow b (cur.toList.take off++vs++cur.toList.drop (off+vs.length)).toArray :=by
    by_cases hz:vs.length=0
    ·simp_all
    grind
   have q_:=run_copy_row (P:=P) w t t' ty E b o len cap ⟨b2,o2,none⟩ abo alL cur T' vs hu (by grind) agJ (by omega) (fun j v hv=>by have hj:j<vs.length:=(by grind);have e:o2=agz:=(by grind);subst e;have:=k2 j v hv;grind [Addr.add_mid]) (by omega) (Aj.one k1)
   rw [hw]at q_;refine⟨_,_,G,q_,hR.put (d:=some d) ?_⟩;grind [Ab,Ad,goInt]
  grind
 grind
theorem ja {F:Fr} {w:World} {G:AG} {id:Ah} {b:Option Nat} {v:Value} (h:v.oneCell'=true):Ab w (B9 F G id b (some v)) (.c (.e_ id)) v:=by simp [Ab,Ad,B9,h]
theorem acN {P:Program} {w:World} {t E:TypeId} {i:TypeInfo} {zv:Value} {n len:Nat} {ps:Array (Nat×Value)} {abh:Array Value} (hu:P.underlying t=some (.slice E)) (hi:P.info? E=some i) (hz:i.zero=some zv)
 (hsz:i.size=n) (h3:0<n) (h4:len*n<=2 ^ 24) (hf:Instr.fill (fun i=>some (i*n,n)) ((Array.range (len*n)).map (zv.cells[· % zv.cells.size]!)) ps.toList=some abh):
 (Instr.buildSlice t len ps).run P w= .ok (.slice (some ⟨w.heap.size,0,none⟩) len len) (w.alloc (.cells abh E)):=by
 have amR: ¬2 ^ 24<len*n:=by omega
 by_cases h0:len=0
 ·simp_all [Array.range_zero',Instr.buildSlice,run_underlying,sizeOf,typeInfo,newRow]
 ·have h1: ¬len*n=0:=by rw [Nat.mul_eq_zero];omega
  have h2:n ≠ 0:=by omega
  simp [Instr.buildSlice,run_underlying hu,sizeOf,typeInfo,hi,hsz,amR,zeroValue,hz,hf,newRow];grind
theorem WF {P:Program} {F:Fr} {st:St} {a:Act} {w:World} {G:AG} (h:R F st a w G) {d:Nat} {t:TypeId} {l c:V} {u v:Value} (hx:Ab w G l u) (hy:Ab w G c v) (hs:(K7 P st d t l c).1):
 ∃ r w' G',(Instr.makeSlice t u v).run P w= .ok r w'/\R F (K7 P st d t l c).2 (a.put (some d) r) w' G':=by
 unfold K7 at *;split at hs
 ·rename_i k1 l k2 c E n by' abq;split at hs
  ·rename_i z hz;obtain⟨h0,h1,h2,h3,h4,h5⟩:=hs;obtain⟨i,zv,hu,hi,hzv,hsz,hby,hzs⟩:=DD abq;obtain⟨i',zv',hi',acV,hc⟩:=Hj hz;rw [hi]at hi';injection hi' with hi';subst hi';rw [hzv]at acV;injection acV with acV;subst acV;simp only [Ab,Ad]at hx hy;subst hx hy;have hM:maxLen=9223372036854775807:=rfl;have q_:=run_make (P:=P) w t E i zv hu hi hzv k1 k2 l c h0 h1 (by rw [hby,Int.mul_comm];omega) (by omega);have hzr:=Md (FN (w:=w) (G:=G) hc) (by omega) l.toNat
   rw [hzs]at hzr;have hle:l.toNat*n<=c.toNat*n:=Nat.mul_le_mul_right _ (by omega);have z_:=h.row (d::st.pre) E n l.toNat c.toNat (Cj z l.toNat) (madeCells zv.cells (c.toNat*i.size)) _ hzr (by
    simp only [madeCells,Array.toList_map,Array.toList_range,List.length_map,List.length_range, <-List.map_take,hzs];grind) (by simp [Cj,h4]) (by rw [size_madeCells,hsz]) (by omega) (by omega) true (fun _=>WC (WB hc) _)
   exact⟨_,_,_,q_,R.put (d:=some d) z_ (ja rfl)⟩
  grind
 grind
theorem J3 {P:Program} {F:Fr} {st:St} {a:Act} {w:World} {G:AG} (h:R F st a w G) {t E:TypeId} {len n by':Nat} {ps:Array (Nat×Operand)} {z cs:List C} (abq:Ej P t=some (E,n,by')) (hz:QK P E=some z)
 (hf:JZ (fun i=>some (i*n,n)) (Cj z len) ((st.parts true ps.toList).2.map WD)=some cs) (h1:(st.parts true ps.toList).1) (h2:z.length=n) (h3:0<n) (h4:len*n<=2 ^ 24):
 ∃ abh,(Instr.buildSlice t len (ps.map fun(i,x)=>(i,a.eval x))).run P w= .ok (.slice (some ⟨w.heap.size,0,none⟩) len len) (w.alloc (.cells abh E))/\Aj w G cs abh.toList/\cs.length=len*n/\abh.size=len*n/\len<=maxLen:=by
 obtain⟨i,zv,hu,hi,hzv,hsz,hby,hzs⟩:=DD abq;obtain⟨i',zv',hi',acV,hc⟩:=Hj hz;rw [hi]at hi';injection hi' with hi';subst hi';rw [hzv]at acV;injection acV with acV;subst acV;have hzr:=Md (FN (w:=w) (G:=G) hc) (by omega) len;obtain⟨abh,q1,q2⟩:=J0 hf (P1 (h.parts rfl h1)) hzr;have q1':Instr.fill (fun i=>some (i*n,n)) ((Array.range (len*n)).map (zv.cells[· % zv.cells.size]!)) (ps.map fun(i,x)=>(i,a.eval x)).toList =some abh:=by simp_all
 have u_:abh.size=len*n:=by
  have e1:=q2.length;have e2:cs.length=(Cj z len).length :=by
   clear hzr q1 q1' q2 e1;have hz': ∀ (l:List (Nat×V)) (b out:List C),JZ (fun i=>some (i*n,n)) b l=some out->out.length=b.length:=by
    intro l;induction l with
    | nil=>grind [JZ]
    | cons p l ih=>
      grind [JZ]
   grind
  grind [Cj]
 have hcl:cs.length=len*n:=by have:=q2.length;grind
 have hM:maxLen=9223372036854775807:=rfl;have hlen:len<=maxLen:=by have:len*1<=len*n:=Nat.mul_le_mul_left _ h3;omega
 grind [acN]
theorem K8 {P:Program} {F:Fr} {st:St} {a:Act} {w:World} {G:AG} (h:R F st a w G) {d:Nat} {t:TypeId} {len:Nat} {ps:Array (Nat×Operand)} (hs:(Bh P st d t len ps.toList).1):
 ∃ r w' G',(Instr.buildSlice t len (ps.map fun(i,x)=>(i,a.eval x))).run P w= .ok r w'/\R F (Bh P st d t len ps.toList).2 (a.put (some d) r) w' G':=by
 unfold Bh at *;split at hs
 ·rename_i E n by' abq;split at hs
  ·rename_i z hz;split at hs
   ·rename_i cs hf;obtain⟨h1,h2,h3,h4⟩:=hs;obtain⟨abh,q1,q2,hcl,u_,hlen⟩:=J3 h abq hz hf h1 h2 h3 h4;exact⟨_,_,_,q1,R.put (d:=some d) (h.row (d::st.pre) E n len len cs abh abh.toList q2 (by grind) hcl u_ (le_refl _) hlen (Ao cs) id) (ja rfl)⟩
   grind
  grind
 grind
theorem Sx {P:Program} {F:Fr} {st:St} {a:Act} {w:World} {G:AG} (h:R F st a w G) {o:Oper} (hs:(ef P st o).1):Eff P F o a w (ef P st o).2:=by
 obtain⟨dst,op,ty,pos,aft,gd⟩:=o;cases op<;>cases dst<;>simp only [ef]at hs ⊢ <;>try (exact hs.elim)
 case store.none T x y=>
  obtain⟨w',h1,h2⟩:=Sw h (h.arg rfl hs.1) (ml (mn (h.arg rfl hs.2.1))) hs.2.2;exact⟨.skip,w',G,by simp [execOp,h1], .inr ⟨rfl,h2⟩⟩
 case store.some T x y d=>
  obtain⟨w',h1,h2⟩:=Sw h (h.arg rfl hs.1) (ml (mn (h.arg rfl hs.2.1))) hs.2.2;exact⟨.skip,w',G,by simp [execOp,h1], .inr ⟨rfl,(by grind [R.put,Ab])⟩⟩
 case alloc.some T d=>
  split at hs
  ·rename_i cs hz;obtain⟨i,z,hi,hzv,hc⟩:=Rh hz;have hb:=h.box (d::st.pre) T cs z.cells (K6 hc) false (fun q=>by cases q);refine⟨.value (.pointer (some ⟨w.heap.size,0,none⟩)),_,_,?_, .inl ⟨_,rfl,R.put (d:=some d) hb (by simp [Ab,Ad,B9])⟩⟩;simp_all [execOp,Instr.alloc,aeG,newVar,newRow]
  grind
 case box.some T x d=>
  split at hs
  ·rename_i cs hc;have hv:=JY (h.arg rfl hs.1) hc;have hb:=h.box (d::st.pre) T cs (a.eval x).cells hv false (fun q=>by cases q);refine⟨.value (.pointer (some ⟨w.heap.size,0,none⟩)),_,_,?_, .inl ⟨_,rfl,R.put (d:=some d) hb (by simp [Ab,Ad,B9])⟩⟩;simp [execOp,Instr.box,newVar,newRow]
  grind
 case assign.some x d=>
  split at hs
  all_goals first
   | (rename_i q;cases q;done)
   | (rename_i q
      cases q
      split at hs
      ·rename_i E n hE;have hb:=h.alg (d::st.pre) E n;exact⟨.value (.slice none 0 0),w,_,by simp [execOp,Act.eval], .inl ⟨_,rfl,R.put (d:=some d) hb (ja rfl)⟩⟩
      grind)
   | grind
 case buildSlice.some t len ps d=>
  obtain⟨r,w',G',q1,q2⟩:=K8 (d:=d) h hs;exact⟨.value r,w',G',by simp [execOp,q1], .inl ⟨r,rfl,q2⟩⟩
 case makeSlice.some t l c d=>
  obtain⟨r,w',G',q1,q2⟩:=WF (d:=d) h (h.arg rfl hs.1) (h.arg rfl hs.2.1) hs.2.2;exact⟨.value r,w',G',by simp [execOp,q1], .inl ⟨r,rfl,q2⟩⟩
 case call.some c d=>
  split at hs
  ·rename_i s x t t' h1 h2 h3;obtain⟨q1,q2,q3,q4⟩:=hs;subst q3;have ea:c.args= #[s,x]:=by grind
   have et:c.argTypes= #[t,t]:=by grind
   obtain⟨r,w',G',k1,k2⟩:=dh (d:=d) (ty:=ty) h (h.arg rfl q1) (h.arg rfl q2) q4;exact⟨.value r,w',G',by simp_all [execOp,resolve,invoke,builtin], .inl ⟨r,rfl,k2⟩⟩
  ·rename_i s x t t' h1 h2 h3;obtain⟨q1,q2,_,q4⟩:=hs;have ea:c.args= #[s,x]:=by grind
   have et:c.argTypes= #[t,t']:=by grind
   obtain⟨r,w',G',k1,k2⟩:=mq (d:=d) (t':=t') (ty:=ty) h (h.arg rfl q1) (h.arg rfl q2) q4;exact⟨.value r,w',G',by simp_all [execOp,resolve,invoke,builtin], .inl ⟨r,rfl,k2⟩⟩
  grind
end Go.PL
namespace Go.PL
open Go Go.RowKit
def ent (P:Program) (f:FuncId):Bool:=
 match P.funcs[f]? with
 | some fn=> !(fn.name== "runtime.NumGoroutine")&&fn.body.isSome
 | none=>false
structure Cd (P:Program) (I:World->Prop) (f:FuncId) (args:List V) (Q:V->Prop):Prop where
 ent:ent P f=true
 run: ∀ (w:World) (vs:Array Value) (av:Nat->Prop),I w->(∀ b,av b->b<w.heap.size)->Aq w (im av) args vs.toList->
  Calls P f vs w (fun e w'=> ∃ v r,e= .returned v/\Q r/\r.pure=true/\Ab w' (im av) r v/\Below w.heap.size w w')
theorem acn {P:Program} {f:FuncId} (h:ent P f=true) (args:Array Value) (w:World):(callFunc f args).run P w= .ok (.enter f args) w:=by
 unfold ent at h;split at h
 ·rename_i fn hf;simp only [and_eq_true,not_eq_true']at h;have h2: ¬fn.body=none:=by grind
  simp_all [callFunc]
 ·cases h
mutual
def V.flat:V->Bool
 | .c x=>x.flat
 | .agg cs=>cs.all C.flat
 | .tup vs=>LJ vs
 | _=>false
def LJ:List V->Bool
 | []=>true
 | v::vs=>v.flat&&LJ vs
end
mutual
def mr:V->Value
 | .c x=>Jc x
 | .agg cs=> .agg (cs.map Jc).toArray
 | .tup vs=> .tuple (mt vs).toArray
 | _=>Go.undef
def mt:List V->List Value
 | []=>[]
 | v::vs=>mr v::mt vs
end
theorem UW {w:World} {G:AG}: ∀ {cs:List C} {vs:List Value},cs.all C.flat=true->(Aj w G cs vs↔vs=cs.map Jc)
 | [],[],_=>by simp [Aj]
 | [],_::_,_=>by simp [Aj]
 | _::_,[],_=>by simp [Aj]
 | c::cs,v::vs,h=>by simp only [List.all_cons,and_eq_true]at h;simp only [Aj,map_cons,List.cons.injEq,AU h.1,UW h.2]
mutual
theorem F5 {w:World} {G:AG}: ∀ {x:V} {v:Value},x.flat=true->(Ab w G x v↔v=mr x)
 | .c x,v,h=>by grind [Ab,mr,AU,V.flat]
 | .agg cs,v,h=>by
   simp only [Ab,mr];constructor
   ·rintro⟨arr,rfl,hr⟩;rw [UW (by simpa only [V.flat] using h)]at hr;rw [<-hr]
   grind [UW,V.flat]
 | .tup vs,v,h=>by
   simp only [Ab,mr];constructor
   ·rintro⟨arr,rfl,hr⟩;rw [MY (by simpa only [V.flat] using h)]at hr;rw [<-hr]
   ·intro e;exact⟨_,e,by rw [MY (by simpa only [V.flat] using h)]⟩
 | .g _ _,_,h=>by simp [V.flat]at h
 | .undef,_,h=>by simp [V.flat]at h
theorem MY {w:World} {G:AG}: ∀ {xs:List V} {vs:List Value},LJ xs=true->(Aq w G xs vs↔vs=mt xs)
 | [],vs,_=>by simp only [Aq,mt]
 | x::xs,vs,h=>by
   simp only [LJ,and_eq_true]at h;simp only [Aq,mt];constructor
   ·rintro⟨v,r,rfl,h1,h2⟩;rw [(F5 h.1).1 h1,(MY h.2).1 h2]
   ·intro e;exact⟨_,_,e,(F5 h.1).2 rfl,(MY h.2).2 rfl⟩
end
def K9 (st:St):C->C
 | .e_ id=>match st.look id with
   | some e=>match e.row with
     | some (_,_,len)=>if e.pu then .sl len e.cs else .any
     | none=> .any
   | none=> .any
 | .s_ => .sl 0 []
 | c=>c
def BF (st:St):V->V
 | .c x=> .c (K9 st x)
 | .agg cs=> .agg (cs.map (K9 st))
 | v=>v
def Sy:C->List Ah
 | .e_ id=>[id]
 | _=>[]
def xw:V->List Ah
 | .c x=>Sy x
 | .agg cs=>cs.flatMap Sy
 | _=>[]
theorem fw {F:Fr} {st:St} {a:Act} {w:World} {G:AG} (h:R F st a w G) {av:Nat->Prop} (hav: ∀ b,b<w.heap.size->av b->G.wr b) {c:C} {v:Value} (hid: ∀ id∈Sy c,st.acs id=true-> ∀ b,G.m_ id=some b-> ¬av b)
 (hp:(K9 st c).pure =true) (hr:Ad w G c v):Ad w (im av) (K9 st c) v:=by
 cases c with
 | e_ id=>
   simp only [K9]at hp ⊢;split at hp
   ·rename_i e he;split at hp
    ·rename_i E n len z_;split
     rotate_left
     ·grind [Ad]
     rename_i hpu;have hpl:Ao e.cs=true:=h.x_ e (Bj he).1 hpu;have hok:st.acs id=true:=by grind [St.acs]
     have hf:=(h.frz he z_ hpl).own v (by grind [Ad]);simp only [Ad]at hf ⊢;obtain⟨hpp,ad,cap,q1,q2,q3,q4,q5⟩:=hf;refine⟨hpp,ad,cap,q1,q2,q3,q4,?_⟩;rcases q5 with q5 | ⟨b,o,rfl,k1,k2,k3⟩
     ·grind
     ·by_cases hz:len=0
      ·grind
      refine .inr ⟨b,o,rfl,?_,k2,?_⟩
      ·have hb:G.m_ id=some b:=by obtain⟨hm,aG2⟩:=Bj he;have hE:=h.store e hm;grind [Bc,Ad]
       exact hid id (by simp [Sy]) hok b hb
      ·exact An.mono (G:=B9 F G id none none) (G':=im av) ⟨le_refl _,fun _ _ _=>rfl,fun b' hb' hw=>by
        have:=hav b' hb' hw;rw [h.wr]at this;simp only [B9];rcases this with q | ⟨i,q⟩
        ·exact .inl q
        ·by_cases hi:i=id
         ·subst hi;exact absurd hw (hid i (by simp [Sy]) hok b' q)
         grind,fun _ _ _ _=>Cg.same rfl⟩ _ _ _ (fun i hi=>by have:BP i e.cs=true:=hi;rw [AP i e.cs hpl]at this;cases this) (fun _=>rfl) k3
    grind [Ad]
   grind [Ad]
 | s_=>
   simp only [Ad]at hr;subst hr;simp only [K9,Ad];exact⟨rfl,none,0,rfl,le_refl _,zero_le _,fun _=>trivial, .inl trivial⟩
 | _=>
   first
    | exact Ad.mono (G:=G) (G':=im av) ⟨le_refl _,fun _ _ _=>rfl,fun b hb hw=>hav b hb hw,fun _ _ _ _=>Cg.same rfl⟩ _ _ (fun i hi=>absurd (show (K9 st _).p_ i=true from hi) (by rw [Ic i _ hp];simp)) hr
theorem fx {F:Fr} {st:St} {a:Act} {w:World} {G:AG} (h:R F st a w G) {av:Nat->Prop} (hav: ∀ b,b<w.heap.size->av b->G.wr b): ∀ {cs:List C} {vs:List Value},(∀ id∈cs.flatMap Sy,st.acs id=true-> ∀ b,G.m_ id=some b-> ¬av b)->
 Ao (cs.map (K9 st))=true->Aj w G cs vs->Aj w (im av) (cs.map (K9 st)) vs
 | [],[],_,_,_=>by simp [Aj]
 | [],_::_,_,_,h=>by simp [Aj]at h
 | _::_,[],_,_,h=>by simp [Aj]at h
 | c::cs,v::vs,hid,hp,hr=>by simp only [Aj]at hr;simp only [map_cons,Ao,and_eq_true]at hp;simp only [map_cons,Aj];exact⟨fw h hav (fun id hi=>hid id (by simp [hi])) hp.1 hr.1,fx h hav (fun id hi=>hid id (by simp only [flatMap_cons,List.mem_append];exact .inr hi)) hp.2 hr.2⟩
theorem fy {F:Fr} {st:St} {a:Act} {w:World} {G:AG} (h:R F st a w G) {av:Nat->Prop} (hav: ∀ b,b<w.heap.size->av b->G.wr b) {x:V} {v:Value} (hid: ∀ id∈xw x,st.acs id=true-> ∀ b,G.m_ id=some b-> ¬av b)
 (hp:(BF st x).pure =true) (hr:Ab w G x v):Ab w (im av) (BF st x) v:=by
 cases x with
 | c x=>simp only [BF,Ab]at hr ⊢;exact fw h hav hid (by grind [BF,V.pure]) hr
 | agg cs=>
   simp only [BF,Ab]at hr ⊢;obtain⟨arr,e,hr⟩:=hr;exact⟨arr,e,fx h hav hid (by grind [BF,V.pure]) hr⟩
 | tup vs=>exact tt hav hp hr
 | g b v'=>exact tt hav hp hr
 | undef=>simp only [BF,Ab]
def C2 (xs:List V):List Ah:=xs.flatMap xw
theorem Hm {F:Fr} {st:St} {a:Act} {w:World} {G:AG} (h:R F st a w G) {av:Nat->Prop} (hav: ∀ b,b<w.heap.size->av b->G.wr b): ∀ {xs:List V} {vs:List Value},(∀ id∈C2 xs,st.acs id=true-> ∀ b,G.m_ id=some b-> ¬av b)->
 Ci (xs.map (BF st))=true->Aq w G xs vs->Aq w (im av) (xs.map (BF st)) vs
 | [],_,_,_,h=>by simpa [Aq] using h
 | x::xs,vs,hid,hp,hr=>by
   simp only [Aq]at hr;obtain⟨v,r,rfl,h1,h2⟩:=hr;simp only [map_cons,Ci,and_eq_true]at hp;simp only [map_cons,Aq];exact⟨v,r,rfl,(by grind [fy,C2]),
    Hm h hav (fun id hi=>hid id (by simp only [C2,flatMap_cons,List.mem_append];exact .inr hi)) hp.2 h2⟩
def St.after (st:St) (ids:List Ah) (d:Option Nat) (r:V):St:=
 if r.flat then st.put d r else match ids with
  | []=>st.put d r
  | id::_=>(st.freeze id).put d r
theorem Ek {B:Nat} {w w':World} (h:Below B w w'):OL w w':=⟨h.os,h.tape,h.output⟩
theorem FO {w w':World} (h:Below w.heap.size w w'):C1 w w':=⟨h.size,fun b hb=>h.block b hb⟩
theorem R.ajk {F:Fr} {st:St} {a:Act} {w:World} {G:AG} (h:R F st a w G) {b:Nat} (hb:G.wr b):b<w.heap.size:=by
 rw [h.wr]at hb;rcases hb with q | ⟨i,q⟩
 ·exact lt_of_lt_of_le (h.aaS b q) h.u_
 ·exact h.lt i b q
theorem R.called {F:Fr} {st:St} {a:Act} {w:World} {G:AG} (h:R F st a w G) {P:Program} {f:FuncId} {xs:List V} {us:Array Value} {Q:V->Prop} (hc:Cd P F.I f (xs.map (BF st)) Q)
 (hp:Ci (xs.map (BF st))=true) (hx:Aq w G xs us.toList) (d:Option Nat) (hfl: ∀ r,Q r->(r.flat=true\/(C2 xs).length <=1/\ ∀ id∈C2 xs,st.acs id=true)):
 Calls P f us w (fun e w'=> ∃ v r G',e= .returned v/\Q r/\R F (st.after (C2 xs) d r) (a.put d v) w' G'):=by
 have hI:F.I w:=h.inv w h.u_ h.ext;by_cases Tj:C2 xs=[]
 ·have h1:=Hm h (av:=fun b=>G.wr b) (fun _ _ q=>q) (by grind) hp hx;refine(hc.run w us (fun b=>G.wr b) hI (fun b hb=>h.ajk hb) h1).mono fun e w' ⟨v,r,he,hq,hpr,hr,hb⟩=>?_;refine⟨v,r,G,he,hq,?_⟩;have h2:=(h.same (Ek hb) (FO hb)).put (d:=d) (YZ (G:=G) (fun _ _ q=>q) hpr hr);grind [St.after]
 ·
  have hav: ∀ b,b<w.heap.size->(G.wr b/\ ∀ id∈C2 xs,G.m_ id ≠ some b)->G.wr b:=fun _ _ q=>q.1;have h1:=Hm h (av:=fun b=>G.wr b/\ ∀ id∈C2 xs,G.m_ id ≠ some b) hav (fun id hi _ b hb hw=>hw.2 id hi hb) hp hx;refine(hc.run w us _ hI (fun b hb=>h.ajk hb.1) h1).mono fun e w' ⟨v,r,he,hq,hpr,hr,hb⟩=>?_;by_cases hf:r.flat=true
  ·refine⟨v,r,G,he,hq,?_⟩;have h2:=(h.same (Ek hb) (FO hb)).put (d:=d) ((F5 (w:=w') (G:=G) hf).2 ((F5 hf).1 hr));simp_all [St.after]
  ·rcases hfl r hq with q | ⟨q1,q2⟩
   ·grind
   ·obtain⟨id,hid⟩: ∃ id,C2 xs=[id]:=by
     match hh:C2 xs,q1,Tj with
     | [],_,Tj=>grind
     | [id],_,_=>grind
    obtain⟨G',g1,g2,g3⟩:=h.freeze id;refine⟨v,r,G',he,hq,?_⟩;have g4:=g1.same (Ek hb) (FO hb);have hr':Ab w' G' r v:=(by grind [YZ]);unfold St.after;rw [if_neg hf,hid];exact g4.put hr'
end Go.PL
namespace Go.PL
open Go Go.RowKit
def ceq:C->C->Bool
 | .int _ a, .int _ b=>a==b
 | .bool a, .bool b=>a==b
 | .str a, .str b=>a==b
 | _,_=>false
def BW:List C->List C->Bool
 | [],[]=>true
 | c::cs,d::ds=>ceq c d&&BW cs ds
 | _,_=>false
theorem OO: ∀ {a b c d:List C},a.length=b.length->BW (a++c) (b++d)=(BW a b&&BW c d)
 | [],[],c,d,_=>by simp [BW]
 | x::a,y::b,c,d,h=>by simp only [cons_append,BW,OO (a:=a) (b:=b) (by simpa using h),Bool.and_assoc]
 | [],_::_,_,_,h=>by simp at h
 | _::_,[],_,_,h=>by simp at h
def vk (P:Program) (R:TypeId->List C->Bool) (cs:List C):Nat->List Field->Bool
 | o,[]=>o==cs.length
 | o,f::fs=>f.name != "_" &&f.offset==o&&(match K0 P f.type with
   | some (ag,n)=>(ag||n==1)&&Nat.ble (o+n) cs.length&&R f.type ((cs.drop o).take n)&&vk P R cs (o+n) fs
   | none=>false)
def XO (P:Program):Nat->TypeId->List C->Bool
 | 0,_,_=>false
 | n+1,t,cs=>match P.underlying t with
   | some .bool =>match cs with
     | [.bool _]=>true
     | _=>false
   | some (.int k)=>match cs with
     | [.int k' _]=>k==k'
     | _=>false
   | some .string =>match cs with
     | [.str _]=>true
     | _=>false
   | some (.struct fs)=> !P.stoodInHeld t&&vk P (XO P n) cs 0 fs.toList
   | some (.array m e)=>match K0 P e with
     | some (ag,k)=>(ag||k==1)&&cs.length==m*k&&(List.range m).all fun i=>XO P n e ((cs.drop (i*k)).take k)
     | none=>false
   | _=>false
def qt (P:Program) (t:TypeId):Bool:=match P.underlying t with
 | some d=>d.isRow
 | none=>false
def vOf (ag:Bool) (cs:List C):V:=if ag then .agg cs else .c (cs.getD 0 .any)
theorem Yr {ag:Bool} {o n:Nat} {cs:List C} (h0:ag=true\/n=1) (hn:o+n<=cs.length):toV ag o n cs=vOf ag ((cs.drop o).take n):=by unfold toV vOf;grind
section
variable {P:Program} {w:World} {G:AG}
def Aeu (P:Program) (w:World) (G:AG) (d n:Nat) (t:TypeId):Prop:=
 ∀ (cs ds:List C) (x y:Value),XO P n t cs=true->XO P n t ds=true->Ab w G (vOf (qt P t) cs) x->Ab w G (vOf (qt P t) ds) y-> ∀ w',(Op.equalIn d t x y).run P w'= .ok (BW cs ds) w'
theorem Ys {t:TypeId} {ag:Bool} {n:Nat} (h:K0 P t=some (ag,n)):qt P t=ag:=by grind [C7,qt]
theorem WG {d n:Nat} (ih: ∀ t,Aeu P w G d n t) {cs ds:List C} {xs ys:Array Value} (hx:Aj w G cs xs.toList) (hy:Aj w G ds ys.toList): ∀ (fs:List Field) (o:Nat),vk P (XO P n) cs o fs=true->vk P (XO P n) ds o fs=true->
 ∀ w',(Op.eqFields d xs ys fs).run P w'= .ok (BW (cs.drop o) (ds.drop o)) w'
 | [],o,h1,h2,w'=>by
   simp only [vk,beq_iff_eq]at h1 h2;have e1:cs.drop o=[]:=by grind
   have e2:ds.drop o=[]:=by grind
   rw [e1,e2];simp [Op.eqFields,BW]
 | f::fs,o,h1,h2,w'=>by
   simp only [vk,and_eq_true,bne_iff_ne,ne_eq,beq_iff_eq]at h1 h2;obtain⟨⟨hn,ho⟩,h1⟩:=h1;obtain⟨_,h2⟩:=h2;cases ht:K0 P f.type with
   | none=>grind
   | some p=>
     obtain⟨ag,k⟩:=p;rw [ht]at h1 h2;simp only [and_eq_true,Bool.or_eq_true,beq_iff_eq,Nat.ble_eq]at h1 h2;obtain⟨⟨⟨h0,l1⟩,r1⟩,q1⟩:=h1;obtain⟨⟨⟨_,l2⟩,r2⟩,q2⟩:=h2;obtain⟨a,ra,pa⟩:=acY ht hx l1 (by grind);obtain⟨b,rb,pb⟩:=acY ht hy l2 (by grind);rw [Yr h0 l1, <-Ys ht]at ra;rw [Yr h0 l2, <-Ys ht]at rb;have he:=ih f.type _ _ a b r1 r2 ra rb w';have ai5:=WG ih hx hy fs (o+k) q1 q2 w';have ak7:cs.drop o=(cs.drop o).take k++cs.drop (o+k):=by rw [<-drop_drop,take_append_drop]
     have ak6:ds.drop o=(ds.drop o).take k++ds.drop (o+k):=by rw [<-drop_drop,take_append_drop]
     rw [ak7,ak6,OO (by simp;omega)];simp only [Op.eqFields,hn,ne_eq,not_false_eq_true,if_true,Sem.run_bind,ho,pa,pb,he,Result.andThen_ok];cases BW ((cs.drop o).take k) ((ds.drop o).take k)
     ·simp
     grind
theorem Y4 {d n:Nat} {e:TypeId} (ih:Aeu P w G d n e) {cs ds:List C} {xs ys:Array Value} {ag:Bool} {k:Nat} (ht:K0 P e=some (ag,k)) (h0:ag=true\/k=1) (hx:Aj w G cs xs.toList) (hy:Aj w G ds ys.toList): ∀ (m o:Nat),cs.length=(o+m)*k->ds.length=(o+m)*k->
 (∀ i,i<o+m->XO P n e ((cs.drop (i*k)).take k)=true)->(∀ i,i<o+m->XO P n e ((ds.drop (i*k)).take k)=true)->
 ∀ w',(Op.eqItems d e k xs ys ((List.range m).map (o+ ·))).run P w'= .ok (BW (cs.drop (o*k)) (ds.drop (o*k))) w'
 | 0,o,l1,l2,_,_,w'=>by
   have e1:cs.drop (o*k)=[]:=by grind
   have e2:ds.drop (o*k)=[]:=by grind
   rw [e1,e2];simp [Op.eqItems,BW]
 | m+1,o,l1,l2,a1,a2,w'=>by
   have hk:(o+(m+1))*k=o*k+k+m*k:=by grind
   have b1:o*k+k<=cs.length:=by grind
   have b2:o*k+k<=ds.length:=by grind
   obtain⟨a,ra,pa⟩:=acY ht hx b1 (h0.imp id (fun h=>by omega));obtain⟨b,rb,pb⟩:=acY ht hy b2 (h0.imp id (fun h=>by omega));rw [Yr h0 b1, <-Ys ht]at ra;rw [Yr h0 b2, <-Ys ht]at rb;have he:=ih _ _ a b (a1 o (by omega)) (a2 o (by omega)) ra rb w';have ai5:=Y4 ih ht h0 hx hy m (o+1) (by grind) (by grind) (by grind) (by grind) w';have hl:(List.range (m+1)).map (o+ ·)=o::(List.range m).map (o+1+ ·):=by rw [List.range_succ_eq_map,map_cons,map_map];simp only [add_zero,List.cons.injEq,true_and];apply List.map_congr_left;grind
   have e1:(o+1)*k=o*k+k:=by grind
   rw [e1]at ai5;have ak7:cs.drop (o*k)=(cs.drop (o*k)).take k++cs.drop (o*k+k):=by rw [<-drop_drop,take_append_drop]
   have ak6:ds.drop (o*k)=(ds.drop (o*k)).take k++ds.drop (o*k+k):=by rw [<-drop_drop,take_append_drop]
   rw [ak7,ak6,OO (by simp;omega),hl];simp only [Op.eqItems,Sem.run_bind,pa,pb,he,Result.andThen_ok];cases BW ((cs.drop (o*k)).take k) ((ds.drop (o*k)).take k)
   ·simp
   grind
theorem jb: ∀ (n d:Nat) (t:TypeId),Aeu P w G (d+n) n t
 | 0,_,_,_,_,_,_,h,_,_,_,_=>by simp [XO]at h
 | n+1,d,t,cs,ds,x,y,h1,h2,hx,hy,w'=>by
   unfold XO at h1 h2;cases hu:P.underlying t with
   | none=>grind
   | some kd=>
     rw [hu]at h1 h2;have hr:qt P t=kd.isRow:=by unfold qt;rw [hu]
     rw [hr]at hx hy;cases kd<;>simp only at h1 h2<;>try (cases h1;done)
     case bool=>
      split at h1<;>try (cases h1;done)
      split at h2<;>try (cases h2;done)
      simp only [vOf,Ab,Ad,getD_cons_zero,TypeDesc.isRow,false_eq_true,if_false]at hx hy;subst hx hy;rw [show d+(n+1)=(d+n)+1 from rfl,run_equalIn_bool' w' (d+n) t _ _ hu];simp [BW,ceq]
     case int k=>
      split at h1<;>try (cases h1;done)
      split at h2<;>try (cases h2;done)
      simp only [beq_iff_eq]at h1 h2;subst h1;simp only [vOf,Ab,Ad,getD_cons_zero,TypeDesc.isRow,false_eq_true,if_false]at hx hy;subst hx hy h2;rw [show d+(n+1)=(d+n)+1 from rfl,run_equalIn_int w' (d+n) t _ _ _ _ hu];simp [BW,ceq]
     case string=>
      split at h1<;>try (cases h1;done)
      split at h2<;>try (cases h2;done)
      simp only [vOf,Ab,Ad,getD_cons_zero,TypeDesc.isRow,false_eq_true,if_false]at hx hy;subst hx hy;rw [show d+(n+1)=(d+n)+1 from rfl,run_equalIn_string w' (d+n) t _ _ hu];simp [BW,ceq,ByteArray.toList_eq]
     case struct fs=>
      simp only [and_eq_true,not_eq_true']at h1 h2;simp only [vOf,TypeDesc.isRow,if_true,Ab]at hx hy;obtain⟨xs,rfl,hx⟩:=hx;obtain⟨ys,rfl,hy⟩:=hy;have hfs:P.fieldsOf t=fs:=by simp [Program.fieldsOf,hu]
      rw [show d+(n+1)=(d+n)+1 from rfl,run_equalIn_struct w' (d+n) t xs ys (by rw [hfs];exact hu) h1.1,hfs];have:=WG (fun t=>jb n d t) hx hy fs.toList 0 h1.2 h2.2 w';grind
     case array m e=>
      cases ht:K0 P e with
      | none=>grind
      | some p=>
        obtain⟨ag,k⟩:=p;rw [ht]at h1 h2;simp only [and_eq_true,Bool.or_eq_true,beq_iff_eq,List.all_eq_true,List.mem_range]at h1 h2;simp only [vOf,TypeDesc.isRow,if_true,Ab]at hx hy;obtain⟨xs,rfl,hx⟩:=hx;obtain⟨ys,rfl,hy⟩:=hy;obtain⟨dd,i,_,_,hi,hsz⟩:=C7 ht;have hc:P.cellsOf e=k:=by grind [Program.cellsOf]
        rw [show d+(n+1)=(d+n)+1 from rfl,run_equalIn_array w' (d+n) xs ys hu hi];have:=Y4 (jb n d e) ht h1.1.1 hx hy m 0 (by grind) (by grind) (by grind) (by grind) w';simp_all
def qu (P:Program) (t:TypeId) (cs ds:List C):Bool:= !P.eqGuardType P.depth t&&qt P t&&XO P 40 t cs&&XO P 40 t ds
def mu (P:Program) (op:BinOp) (t:TypeId) (cs ds:List C):Prop×V:=
 match op with
 | .eql =>(qu P t cs ds=true, .c (.bool (BW cs ds)))
 | .neq =>(qu P t cs ds=true, .c (.bool !(BW cs ds)))
 | _=>no
theorem qv {op:BinOp} {t:TypeId} {cs ds:List C} {u v:Value} {ox oy:Operand} (hx:Ab w G (.agg cs) u) (hy:Ab w G (.agg ds) v) (hs:(mu P op t cs ds).1):
 ∃ r,Ab w G (mu P op t cs ds).2 r/\ ∀ w',(do eqGuard op t ox oy u v;binOp op t u v).run P w'= .ok r w':=by
 have key:qu P t cs ds=true-> ∃ xs ys,u= .agg xs/\v= .agg ys/\(∀ w',(eqGuard op t ox oy u v).run P w'= .ok () w')/\ ∀ w',(Op.equalIn 10000 t u v).run P w'= .ok (BW cs ds) w':=by intro h;simp only [qu,and_eq_true,not_eq_true']at h;have hx':=hx;have hy':=hy;simp only [Ab]at hx' hy';obtain⟨xs,rfl,_⟩:=hx';obtain⟨ys,rfl,_⟩:=hy';refine⟨xs,ys,rfl,rfl,(by grind [run_eqGuard_agg]),fun w'=>?_⟩;exact jb (P:=P) (w:=w) (G:=G) 40 9960 t cs ds _ _ h.1.2 h.2 (by rw [h.1.1.2];exact hx) (by rw [h.1.1.2];exact hy) w'
 unfold mu at *;split at hs
 ·obtain⟨xs,ys,rfl,rfl,h1,h2⟩:=key hs;exact⟨_,(AU rfl).2 rfl,fun w'=>by simp only [Sem.run_bind,h1,Result.andThen_ok,run_eql_struct,h2];rfl⟩
 ·obtain⟨xs,ys,rfl,rfl,h1,h2⟩:=key hs;exact⟨_,(AU rfl).2 rfl,fun w'=>by simp only [Sem.run_bind,h1,Result.andThen_ok,run_neq_struct,h2];rfl⟩
 grind
end
def vl:List C->Bool
 | []=>true
 | .int _ _::cs=>vl cs
 | .bool _::cs=>vl cs
 | .str _::cs=>vl cs
 | _::_=>false
theorem fA: ∀ {cs:List C},vl cs=true->BW cs cs=true
 | [],_=>rfl
 | c::cs,h=>by cases c<;>simp only [vl]at h<;>first | (cases h;done) | simp_all [BW,ceq,fA]
def kinds:List C->List (Option IntKind)
 | []=>[]
 | .int k _::cs=>some k::kinds cs
 | _::cs=>none::kinds cs
theorem Yt: ∀ {cs ds:List C},kinds cs=kinds ds->BW cs ds=true->cs=ds
 | [],[],_,_=>rfl
 | [],_::_,_,h=>by simp [BW]at h
 | _::_,[],_,h=>by simp [BW]at h
 | c::cs,d::ds,hk,h=>by
   simp only [BW,and_eq_true]at h;cases c<;>cases d<;>simp only [ceq,false_eq_true,false_and]at h
   ·simp only [kinds,List.cons.injEq,injEq]at hk;rw [beq_iff_eq.1 h.1,hk.1,Yt hk.2 h.2]
   ·simp only [kinds,List.cons.injEq,true_and]at hk;rw [beq_iff_eq.1 h.1,Yt hk h.2]
   ·simp only [kinds,List.cons.injEq,true_and]at hk;rw [beq_iff_eq.1 h.1,Yt hk h.2]
theorem Fo {α:Type} [DecidableEq α] (enc:α->List C) (xp:List C->α) (hd: ∀ a,xp (enc a)=a) (hs: ∀ a,vl (enc a)=true) (hk: ∀ a b,kinds (enc a)=kinds (enc b)) (a b:α):BW (enc a) (enc b)=(a==b):=by grind [fA,Yt]
def AB:C->Int
 | .int _ n=>n
 | _=>0
def qw:C->Bool
 | .bool b=>b
 | _=>false
def qx:C->List UInt8
 | .str s=>s
 | _=>[]
structure Cp (st an:St):Prop where
 len:an.tm.length=st.tm.length
 tm: ∀ i,an.tm.getD i .undef = .undef \/an.tm.getD i .undef =st.tm.getD i .undef
 so: ∀ e∈an.so,e∈st.so
 nd:(st.so.map (·.id)).Nodup ->(an.so.map (·.id)).Nodup
 gh:an.gh.length=st.gh.length/\ ∀ i,an.gh.getD i .undef = .undef \/an.gh.getD i .undef =st.gh.getD i .undef
 pre:an.pre=st.pre
theorem Cp.refl (st:St):Cp st st:=⟨rfl,fun _=> .inr rfl,fun _ h=>h,id,(by grind),rfl⟩
theorem Y5 {w:World} {G:AG}: ∀ {xs ys:List V} {vs:List Value},ys.length=xs.length->(∀ i,ys.getD i .undef = .undef \/ys.getD i .undef =xs.getD i .undef)->Aq w G xs vs->Aq w G ys vs
 | [],[],_,_,_,h=>h
 | x::xs,y::ys,vs,hl,hi,h=>by
   simp only [Aq]at h ⊢;obtain⟨v,r,e,h1,h2⟩:=h;refine⟨v,r,e,?_,Y5 (by simpa using hl) (fun i=>by simpa using hi (i+1)) h2⟩;rcases hi 0 with q | q
   ·simp at q;rw [q];simp only [Ab]
   ·simp at q;rw [q];exact h1
 | [],_::_,_,hl,_,_=>by simp at hl
 | _::_,[],_,hl,_,_=>by simp at hl
theorem R.less {F:Fr} {st:St} {a:Act} {w:World} {G:AG} {an:St} (h:R F st a w G) (hl:Cp st an):R F an a w G:={
 dfr:=h.dfr
 size:=by rw [hl.len];exact h.size
 v_:=fun i=>by
  rcases hl.tm i with q | q
  ·rw [q];simp only [Ab]
  ·rw [q];exact h.v_ i
 F_:=Y5 hl.gh.1 hl.gh.2 h.F_
 store:=fun e he=>h.store e (hl.so e he)
 deep:=fun e he=>h.deep e (hl.so e he)
 x_:=fun e he=>h.x_ e (hl.so e he)
 nodup:=hl.nd h.nodup
 inj:=h.inj,lt:=h.lt,new:=h.new,wr:=h.wr,aaS:=h.aaS,inv:=h.inv,aah:=h.aah,os:=h.os,tape:=h.tape,output:=h.output,u_:=h.u_,ext:=h.ext}
end Go.PL
namespace Go.PL
open Go Go.RowKit
def jc:List V->Option (List C)
 | []=>some []
 | .c x::vs=>match jc vs with
   | some cs=>some (x::cs)
   | none=>none
 | _=>none
def DZ (P:Program) (st:St) (g:Bool) (op:Op):Prop×V:=
 match op with
 | .build t ps=>ON P st g t ps.toList
 | .binOp op t x y t'=>match (st.arg g x).2,(st.arg g y).2 with
   | .agg cs, .agg ds=>((st.arg g x).1/\(st.arg g y).1/\(mu P op t cs ds).1,(mu P op t cs ds).2)
   | _,_=>rd P st g (.binOp op t x y t')
 | .makeFunc (.func f) ⟨[]⟩ aiO=>match jc (st.args g aiO.toList).2 with
   | some cs=>((st.args g aiO.toList).1, .c (.clo f cs))
   | none=>no
 | .makeFunc (.func f) ⟨x::xs⟩ ⟨[]⟩=>match jc (st.args g (x::xs)).2 with
   | some cs=>((st.args g (x::xs)).1, .c (.bmv f cs))
   | none=>no
 | op=>rd P st g op
theorem Y6 {w:World} {G:AG}: ∀ {vs:List V} {cs:List C} {us:List Value},jc vs=some cs->Aq w G vs us->Aj w G cs us
 | [],cs,us,h,hr=>by grind [jc,Aq,Aj]
 | v::vs,cs,us,h,hr=>by
   unfold jc at h;split at h
   ·grind
   ·rename_i x vs' he;injection he with h1 h2;subst h1 h2;split at h
    ·rename_i cs' hcs;injection h with h;subst h;simp only [Aq,Ab]at hr;obtain⟨u,r,rfl,h1,h2⟩:=hr;simp only [Aj];exact⟨h1,Y6 hcs h2⟩
    ·cases h
   ·cases h
theorem F6 {P:Program} {F:Fr} {st:St} {a:Act} {w:World} {G:AG} (h:R F st a w G) {g:Bool} (hg:g=true) {o:Oper} (hs:(DZ P st g o.op).1):
 ∃ v,Ab w G (DZ P st g o.op).2 v/\ ∀ w',C1 w w'->(execOp a.eval o).run P w'= .ok (.value v) w':=by
 unfold DZ at *;split at hs
 ·rename_i t ps ho;obtain⟨v,q1,q2⟩:=i8 h hg hs;exact⟨v,q1,(by simp_all [execOp])⟩
 ·rename_i op t x y t' ho;split at hs
  ·rename_i cs ds e1 e2;have hx:=h.arg hg hs.1;have hy:=h.arg hg hs.2.1;rw [e1]at hx;rw [e2]at hy;obtain⟨v,q1,q2⟩:=qv (P:=P) (op:=op) (t:=t) (ox:=x) (oy:=y) hx hy hs.2.2;refine⟨v,q1,fun w' hw'=>?_⟩;have:=q2 w';simp only [execOp,ho,Sem.run_bind]at this ⊢;simp_all
  grind [me]
 ·rename_i f aiO ho;split at hs
  ·rename_i cs hcs;have:=Y6 hcs (h.args hg hs);refine⟨.func (.func f) #[] (aiO.map a.eval),⟨_,rfl,by simpa using this⟩,(by simp_all [execOp,Instr.makeFunc])⟩
  grind
 ·rename_i f x xs ho;split at hs
  ·rename_i cs hcs;have:=Y6 hcs (h.args hg hs);refine⟨.func (.func f) ((x::xs).map a.eval).toArray #[],⟨_,rfl,by simpa using this⟩,(by simp_all [execOp,Instr.makeFunc])⟩
  grind
 ·exact me h hg hs
inductive Kind where
 | rd | ef | call (f:FuncId) (xs:List Operand) | cut (x:Operand) | no
def Ck:Op->Kind
 | .alloc _ | .box _ _ | .buildSlice .. | .makeSlice .. | .store .. => .ef
 | .assign (.const (.slice none 0 0))=> .ef
 | .slice _ x _ _ _=> .cut x
 | .call c=>match c.callee with
   | .builtin .append => .ef
   | .builtin .copy => .ef
   | .builtin _=> .rd
   | .value (.func f)=> .call f c.args.toList
   | _=> .no
 | _=> .rd
def St.cutAt (st:St) (g:Bool) (x:Operand):St:=
 match (st.arg g x).2 with
 | .c (.e_ id)=>st.freeze id
 | _=>st
abbrev mv (F:Fr) (K:St->Prop) (a:Act) (w:World):Prop:= ∃ an G',K an/\R F an a w G'
def DJ (P:Program) (I:World->Prop) (o:Oper) (st:St) (K:St->Prop):Prop:=
 ∀ (F:Fr) (a:Act) (w:World) (G:AG) (Q:Exit->Act->World->Prop),F.I=I->R F st a w G->o.wp P a w (mv F K) Q
def vm (P:Program) (I:World->Prop) (o:Oper) (st:St) (K:St->Prop):Prop:=
 DJ P I o st K\/match Ck o.op with
 | .rd =>(DZ P st true o.op).1/\K (st.put o.dst (DZ P st true o.op).2)
 | .ef =>(ef P st o).1/\K (ef P st o).2
 | .call f xs=>(st.args true xs).1/\Ci ((st.args true xs).2.map (BF st))=true/\
  ∃ Q,Cd P I f ((st.args true xs).2.map (BF st)) Q/\ ∀ r,Q r->(r.flat=true\/(C2 (st.args true xs).2).length <=1/\ ∀ id∈C2 (st.args true xs).2,st.acs id=true)/\K (st.after (C2 (st.args true xs).2) o.dst r)
 | .cut x=>(DZ P (st.cutAt true x) true o.op).1/\K ((st.cutAt true x).put o.dst (DZ P (st.cutAt true x) true o.op).2)
 | .no =>False
def Je (st:St) (ops:Array Oper) (j:Nat) (want:Bool):Option Bool:=
 match ops[j]? with
 | some p=>match p.dst with
   | some t=>match st.get t with
     | .c (.bool b)=>some (b==want)
     | .g c (.c (.bool b))=>some (c&&(b==want))
     | _=>none
   | none=>none
 | none=>none
def wpG (P:Program) (I:World->Prop) (o:Oper) (st:St) (g:Bool) (K:St->Prop):Prop:=
 ((g=true->vm P I o st K)/\(g=false-> ∃ x an,Cp (st.put o.dst (.g g x)) an/\K an))\/match Ck o.op with
 | .rd => ∃ v,(g=true->(DZ P st g o.op).1/\(DZ P st g o.op).2=v)/\K (st.put o.dst (.g g v))
 | .call f xs=>(g=true->(st.args g xs).1/\Ci ((st.args g xs).2.map (BF st))=true)/\
  ∃ r,(r.flat=true\/C2 (st.args g xs).2=[])/\(g=true->Cd P I f ((st.args g xs).2.map (BF st)) (· =r))/\K (st.put o.dst (.g g r))
 | _=>False
def fB (P:Program) (I:World->Prop) (ops:Array Oper) (o:Oper) (st:St) (K:St->Prop):Prop:=
 match o.guard with
 | none=>vm P I o st K
 | some (j,want)=>match Je st ops j want with
   | some g=>wpG P I o st g K
   | none=>False
def DN (P:Program) (I:World->Prop) (ops:Array Oper):List Oper->St->(St->Prop)->Prop
 | [],st,K=>K st
 | o::rest,st,K=>fB P I ops o st (fun an=>DN P I ops rest an K)
def wq1 (P:Program) (I:World->Prop) (o:Oper) (st:St) (K:St->Prop):Prop:=
 match Ck o.op with
 | .rd =>(DZ P st true o.op).1/\K (st.put o.dst (DZ P st true o.op).2)
 | .cut _=>(DZ P st true o.op).1/\K (st.put o.dst (DZ P st true o.op).2)
 | .call f xs=>(st.args true xs).1/\Ci ((st.args true xs).2.map (BF st))=true/\
  ∃ r,r.flat=true/\Cd P I f ((st.args true xs).2.map (BF st)) (· =r)/\K (st.put o.dst r)
 | _=>False
def wqG (P:Program) (I:World->Prop) (o:Oper) (st:St) (g:Bool) (K:St->Prop):Prop:=
 match Ck o.op with
 | .rd => ∃ v,(g=true->(DZ P st g o.op).1/\(DZ P st g o.op).2=v)/\K (st.put o.dst (.g g v))
 | .cut _=> ∃ v,(g=true->(DZ P st g o.op).1/\(DZ P st g o.op).2=v)/\K (st.put o.dst (.g g v))
 | .call f xs=>(g=true->(st.args g xs).1/\Ci ((st.args g xs).2.map (BF st))=true)/\
  ∃ r,r.flat=true/\(g=true->Cd P I f ((st.args g xs).2.map (BF st)) (· =r))/\K (st.put o.dst (.g g r))
 | _=>False
def wqO (P:Program) (I:World->Prop) (ops:Array Oper) (o:Oper) (st:St) (K:St->Prop):Prop:=
 match o.guard with
 | none=>wq1 P I o st K
 | some (j,want)=>match Je st ops j want with
   | some g=>wqG P I o st g K
   | none=>False
def fC (P:Program) (I:World->Prop) (ops:Array Oper):List Oper->St->(St->Prop)->Prop
 | [],st,K=>K st
 | o::rest,st,K=>wqO P I ops o st (fun an=>fC P I ops rest an K)
section
variable {P:Program} {F:Fr} {st:St} {a:Act} {w:World} {G:AG} {ops:Array Oper}
theorem F7 {o:Oper} (h:o.guard=none) (y:Nat->Option Bool):Region.wanted o y=true:=by simp [Region.wanted,h]
theorem J5 (h:R F st a w G) {o:Oper} {j:Nat} {want g:Bool} (hg:o.guard=some (j,want)) (hq:Je st ops j want=some g):Region.wanted o (yielded ops a.tmps)=g:=by
 unfold Je at hq;split at hq
 ·rename_i p hp;split at hq
  ·rename_i t ht;have hs:=h.v_ t;have hv: ∀ v:Value,v ≠ Go.undef->a.tmps.getD t Go.undef=v->a.tmps[t]? =some v:=by intro v Tj he;rw [Array.getD_eq_getD_getElem?]at he;grind
   split at hq
   ·rename_i b hb;injection hq with hq;subst hq;have:st.tm.getD t .undef = .c (.bool b):=hb;grind [Ab,Ad,Go.undef,Region.wanted,yielded]
   ·rename_i c b hb;injection hq with hq;subst hq;have:st.tm.getD t .undef = .g c (.c (.bool b)):=hb;rw [this]at hs;simp only [Ab,Ad]at hs;cases c with
    | true=>
      rw [if_pos rfl]at hs;grind [Go.undef,Region.wanted,yielded]
    | false=>
      simp only [false_eq_true,if_false]at hs;have hn: ∀ x,a.tmps[t]? =some (.bool x)->False:=by intro x hx;simp_all [Go.undef]
      grind [yielded,Region.wanted]
   ·cases hq
  ·cases hq
 ·cases hq
theorem R.cutAt (h:R F st a w G) (g:Bool) (x:Operand): ∃ G',R F (st.cutAt g x) a w G':=by
 unfold St.cutAt;split
 ·obtain⟨G',q,_⟩:=h.freeze _;exact⟨G',q⟩
 grind
theorem AJ {o:Oper} {v:Value} {w':World} {K:Act->World->Prop} {Q:Exit->Act->World->Prop} (hr:(execOp a.eval o).run P w= .ok (.value v) w') (h:K (a.put o.dst v) w'):o.wp P a w K Q:=by grind [Oper.wp,Oper.upon]
theorem P2 (h:R F st a w G) {o:Oper} {K:St->Prop} {Q:Exit->Act->World->Prop} (hs:vm P F.I o st K):o.wp P a w (mv F K) Q:=by
 unfold vm at hs;rcases hs with hs | hs
 ·exact hs F a w G Q rfl h
 split at hs
 ·obtain⟨v,q1,q2⟩:=F6 h rfl hs.1;exact AJ (q2 w (C1.refl w)) ⟨_,G,hs.2,h.put q1⟩
 ·obtain⟨nx,w',G',q1,q2⟩:=(Sx h hs.1).out;unfold Oper.wp Oper.upon;grind
 ·rename_i f xs hk;obtain⟨h1,h2,Q',hc,hq⟩:=hs;have hr:(execOp a.eval o).run P w= .ok (.enter f (xs.map a.eval).toArray) w:=by
   unfold Ck at hk;split at hk<;>try (cases hk;done)
   rename_i c ho;split at hk<;>try (cases hk;done)
   rename_i f' aev;injection hk with hk1 hk2;subst hk1 hk2;simp [execOp,ho,resolve,aev,Act.eval,Deferred.ofValue,invoke,acn hc.ent];grind
  unfold Oper.wp Oper.upon;rw [hr];refine(h.called (us:=(xs.map a.eval).toArray) hc h2 (by simpa using h.args rfl h1) o.dst (by grind)).mono fun e w' ⟨v,r,G',he,q,hR⟩=>?_;subst he;exact⟨_,G',(hq r q).2,hR⟩
 ·rename_i x hk;obtain⟨G',hR⟩:=h.cutAt true x;obtain⟨v,q1,q2⟩:=F6 hR rfl hs.1;exact AJ (q2 w (C1.refl w)) ⟨_,G',hs.2,hR.put q1⟩
 grind
theorem mw (h:R F st a w G) {d:Option Nat} {g:Bool} {x:V} {v:Value} (hg:g=true) (hx:Ab w G x v):R F (st.put d (.g g x)) (a.put d v) w G:=
 h.put (by simp_all [Ab])
theorem jd (h:R F st a w G) {d:Option Nat} {g:Bool} {x:V} (hg:g=false):R F (st.put d (.g g x)) (a.put d Go.undef) w G:=
 h.put (by simp [Ab,hg])
theorem Sz {o:Oper} {f:FuncId} {xs:List Operand} (hk:Ck o.op= .call f xs) (he:ent P f=true) (w:World):(execOp a.eval o).run P w= .ok (.enter f (xs.map a.eval).toArray) w:=by
 unfold Ck at hk;split at hk<;>try (cases hk;done)
 rename_i c ho;split at hk<;>try (cases hk;done)
 rename_i f' aev;injection hk with hk1 hk2;subst hk1 hk2;simp [execOp,ho,resolve,aev,Act.eval,Deferred.ofValue,invoke,acn he];grind
theorem Y7 (h:R F st a w G) {f:FuncId} {g:Bool} (hg:g=true) {xs:List Operand} (h1:(st.args g xs).1) (h2:Ci ((st.args g xs).2.map (BF st))=true) {r:V} (hr:r.flat=true)
 (hc:Cd P F.I f ((st.args g xs).2.map (BF st)) (· =r)) {w':World} (ho:OL w w') (hs:C1 w w'):
 Calls P f (xs.map a.eval).toArray w' (fun e w''=>e= .returned (mr r)/\Below w'.heap.size w' w''):=by
 have hR:=h.same ho hs;have hav: ∀ b,b<w'.heap.size->(G.wr b/\ ∀ id∈C2 (st.args g xs).2,G.m_ id ≠ some b)->G.wr b:=fun _ _ q=>q.1;have h3:=Hm hR (av:=fun b=>G.wr b/\ ∀ id∈C2 (st.args g xs).2,G.m_ id ≠ some b) hav (by grind) h2 (by simpa using hR.args hg h1);refine(hc.run w' _ (fun b=>G.wr b/\ ∀ id∈C2 (st.args g xs).2,G.m_ id ≠ some b) (hR.inv w' hR.u_ hR.ext) (fun b hb=>hR.ajk hb.1) (by grind)).mono fun e w'' ⟨v,r',he,hq,_,hv,hb⟩=>?_;grind [F5]
theorem fD (h:R F st a w G) {o:Oper} {g:Bool} {K:St->Prop} {Q:Exit->Act->World->Prop} (hs:wpG P F.I o st g K):
 if g then o.wp P a w (mv F K) Q else mv F K (a.put o.dst Go.undef) w:=by
 unfold wpG at hs;rcases hs with hs | hs
 ·split
  ·grind [P2]
  ·rename_i hg;have hg':g=false:=by grind
   obtain⟨x,an,h1,h2⟩:=hs.2 hg';exact⟨an,G,h2,(jd h hg').less h1⟩
 split at hs
 ·obtain⟨x,hx,hs⟩:=hs;split
  ·rename_i hg;obtain⟨v,q1,q2⟩:=F6 h hg (hx hg).1;rw [(hx hg).2]at q1;exact AJ (q2 w (C1.refl w)) ⟨_,G,hs,mw h hg q1⟩
  ·rename_i hg;exact⟨_,G,hs,jd h (by grind)⟩
 ·rename_i f xs hk;obtain⟨h1,r,hr,hc,hK⟩:=hs;split
  ·rename_i hg;unfold Oper.wp Oper.upon;rw [Sz hk (hc hg).ent w];rcases hr with hr | Tj
   rotate_left
   ·have hp:=(h1 hg).2;have h2:=Hm h (av:=fun b=>G.wr b) (fun _ _ q=>q) (by grind) hp (by simpa using h.args hg (h1 hg).1:Aq w G (st.args g xs).2 (xs.map a.eval));refine((hc hg).run w (xs.map a.eval).toArray (fun b=>G.wr b) (h.inv w h.u_ h.ext) (fun b hb=>h.ajk hb) (by grind)).mono fun e w' ⟨v,r',he,hq,hpr,hr',hb⟩=>?_;subst he hq;exact⟨_,G,hK,mw (h.same (Ek hb) (FO hb)) hg (by grind [YZ])⟩
   refine(Y7 h hg (h1 hg).1 (h1 hg).2 hr (hc hg) ⟨rfl,rfl,rfl⟩ (C1.refl w)).mono fun e w' ⟨he,hb⟩=>?_;subst he;exact⟨_,G,hK,mw (h.same (Ek hb) (FO hb)) hg ((F5 hr).2 rfl)⟩
  ·rename_i hg;exact⟨_,G,hK,jd h (by grind)⟩
 grind
theorem WH {Q:Exit->Act->World->Prop} {K:St->Prop} (hQ: ∀ an a' w' G',K an->R F an a' w' G'->Q .normal a' w'):
 ∀ (l:List Oper) (st:St) (a:Act) (w:World) (G:AG),R F st a w G->DN P F.I ops l st K->wpList P ops Q l a w
 | [],st,a,w,G,h,hs=>hQ st a w G hs h
 | o::rest,st,a,w,G,h,hs=>by
   refine wpList_step fun K' hK'=>?_;have aic: ∀ a' w',mv F (fun an=>DN P F.I ops rest an K) a' w'->K' a' w':=fun a' w' ⟨an,G',q,hR⟩=>
    hK' a' w' (WH hQ rest an a' w' G' hR q)
   have au5: ∀ {o:Oper},o.wp P a w (mv F (fun an=>DN P F.I ops rest an K)) Q->o.wp P a w K' Q:=fun {o} hw=>by
    unfold Oper.wp Oper.upon at *;generalize (execOp a.eval o).run P w=r at *;cases r with
    | ok n w'=>
      cases n<;>simp only at hw ⊢ <;>first
       | exact aic _ _ hw
       | exact hw.mono fun e w'' he=>by grind
       | exact Rows.mono hw fun v w'' he=>aic _ _ he
       | exact hw
    | halt x w'=>grind
   simp only [DN,fB]at hs;split at hs
   ·rename_i hg;rw [F7 hg,if_pos rfl];exact au5 (P2 h hs)
   ·rename_i j want hg;split at hs
    ·rename_i g hq;rw [J5 h hg hq];have:=fD (Q:=Q) h hs;grind
    grind
end
end Go.PL
namespace Go.PL
open Go Go.RowKit
section
variable {P:Program} {F:Fr} {st:St} {a:Act} {w:World} {G:AG} {ops:Array Oper}
def QL (w:World) (w':World):Prop:=OL w w'/\C1 w w'
theorem QL.below {w w' w'':World} (h:QL w w') (hb:Below w'.heap.size w' w''):QL w w'':=
 ⟨⟨hb.os.trans h.1.os,hb.tape.trans h.1.tape,hb.output.trans h.1.output⟩,h.2.trans (FO hb)⟩
theorem J6 {o:Oper} {v:Value} {K:Act->Prop} (hr: ∀ w',C1 w w'->(execOp a.eval o).run P w'= .ok (.value v) w') (h:K (a.put o.dst v)):o.quiet P a (QL w) K:=
 ⟨v,fun w' hw'=>by unfold Oper.quietAt;rw [hr w' hw'.2];exact⟨rfl,rfl⟩,h⟩
theorem vn (h:R F st a w G) {o:Oper} {K:St->Prop} {K':Act->Prop} (hK: ∀ an a',K an->R F an a' w G->K' a') (hs:wq1 P F.I o st K):o.quiet P a (QL w) K':=by
 unfold wq1 at hs;split at hs
 ·obtain⟨v,q1,q2⟩:=F6 h rfl hs.1;exact J6 q2 (hK _ _ hs.2 (h.put q1))
 ·obtain⟨v,q1,q2⟩:=F6 h rfl hs.1;exact J6 q2 (hK _ _ hs.2 (h.put q1))
 ·rename_i f xs hk;obtain⟨h1,h2,r,hr,hc,hq⟩:=hs;refine⟨mr r,fun w' hw'=>?_,hK _ _ hq (h.put ((F5 hr).2 rfl))⟩;unfold Oper.quietAt;rw [Sz hk hc.ent w'];exact⟨rfl,(Y7 h rfl h1 h2 hr hc hw'.1 hw'.2).mono fun e w'' ⟨he,hb⟩=>⟨he,hw'.below hb⟩⟩
 grind
theorem vp (h:R F st a w G) {o:Oper} {g:Bool} {K:St->Prop} {K':Act->Prop} (hK: ∀ an a',K an->R F an a' w G->K' a') (hs:wqG P F.I o st g K):
 if g then o.quiet P a (QL w) K' else K' (a.put o.dst Go.undef):=by
 unfold wqG at hs;have axV:(∃ x,(g=true->(DZ P st g o.op).1/\(DZ P st g o.op).2=x)/\K (st.put o.dst (.g g x)))->if g then o.quiet P a (QL w) K' else K' (a.put o.dst Go.undef):=by
  rintro⟨x,hx,hs⟩;split
  ·rename_i hg;obtain⟨v,q1,q2⟩:=F6 h hg (hx hg).1;rw [(hx hg).2]at q1;exact J6 q2 (hK _ _ hs (mw h hg q1))
  ·rename_i hg;exact hK _ _ hs (jd h (by grind))
 split at hs
 ·grind
 ·grind
 ·rename_i f xs hk;obtain⟨h1,r,hr,hc,hq⟩:=hs;split
  ·rename_i hg;refine⟨mr r,fun w' hw'=>?_,hK _ _ hq (mw h hg ((F5 hr).2 rfl))⟩;unfold Oper.quietAt;rw [Sz hk (hc hg).ent w'];exact⟨rfl,(Y7 h hg (h1 hg).1 (h1 hg).2 hr (hc hg) hw'.1 hw'.2).mono fun e w'' ⟨he,hb⟩=>⟨he,hw'.below hb⟩⟩
  grind
 grind
theorem WI {Q':Act->Prop} {K:St->Prop} (hQ: ∀ an a',K an->R F an a' w G->Q' a'):
 ∀ (l:List Oper) (st:St) (a:Act),R F st a w G->fC P F.I ops l st K->wpQuiet P ops (QL w) Q' l a
 | [],st,a,h,hs=>hQ st a hs h
 | o::rest,st,a,h,hs=>by
   have aic: ∀ an a',fC P F.I ops rest an K->R F an a' w G->wpQuiet P ops (QL w) Q' rest a':=fun an a' q hR=>WI hQ rest an a' hR q;simp only [fC,wqO]at hs;simp only [wpQuiet];split at hs
   ·rename_i hg;rw [F7 hg,if_pos rfl];exact vn h aic hs
   ·rename_i j want hg;split at hs
    ·rename_i g hq;rw [J5 h hg hq];exact vp h aic hs
    grind
def Ae (P:Program) (F:Fr) (c:Code) (st:St) (Q:Exit->St->Prop):Prop:=
 ∀ a w G,R F st a w G->c.wp P (fun e a' w'=> ∃ an G',Q e an/\R F an a' w' G') a w
def Cq (K:St->Prop) (Q:Exit->St->Prop):Exit->St->Prop
 | .normal,st=>K st
 | e,st=>Q e st
def Cl (id:Nat) (Q:Exit->St->Prop):Exit->St->Prop
 | .exit j,st=>if j=id then Q .normal st else Q (.exit j) st
 | e,st=>Q e st
theorem Ae.seq {x y:Code} {Q:Exit->St->Prop} (h:Ae P F x st (Cq (fun an=>Ae P F y an Q) Q)):Ae P F (.seq x y) st Q:=
 fun a w G hR=>wp_seq (Code.wp_mono (fun e a' w' ⟨an,G',q,hR'⟩=>by cases e<;>simp only [Exit.then,Cq]at q ⊢ <;>first | exact q a' w' G' hR' | grind) (h a w G hR))
theorem Ae.skip {Q:Exit->St->Prop} (h:Q .normal st):Ae P F .skip st Q:=fun _ _ G hR=>wp_skip ⟨st,G,h,hR⟩
theorem Ae.ret {Q:Exit->St->Prop} (h:Q .ret st):Ae P F .ret st Q:=fun _ _ G hR=>wp_ret ⟨st,G,h,hR⟩
theorem Ae.exit {id:Nat} {Q:Exit->St->Prop} (h:Q (.exit id) st):Ae P F (.exit id) st Q:=fun _ _ G hR=>wp_exit ⟨st,G,h,hR⟩
theorem Ae.block {id:Nat} {c:Code} {Q:Exit->St->Prop} (h:Ae P F c st (Cl id Q)):Ae P F (.block id c) st Q:=
 fun a w G hR=>wp_block (Code.wp_mono (fun e a' w' ⟨an,G',q,hR'⟩=>by
  cases e<;>simp only [Exit.inBlock,Cl]at q ⊢ <;>first
   | grind
   | grind) (h a w G hR))
theorem Ae.cond {c:Operand} {x y:Code} {Q:Exit->St->Prop} {b:Bool} (hc:st.ev c= .c (.bool b)) (h1:b=true->Ae P F x st Q) (h2:b=false->Ae P F y st Q):Ae P F (.cond c x y) st Q:=by
 intro a w G hR;have:=hR.ev c;rw [hc]at this;simp only [Ab,Ad]at this;refine wp_cond this ?_;cases b with
 | true=>exact h1 rfl a w G hR
 | false=>exact h2 rfl a w G hR
theorem Ae.region {id:Nat} {ops:Array Oper} {Q:Exit->St->Prop} (h:DN P F.I ops ops.toList st (Q .normal)):Ae P F (.region id ops false) st Q:=
 fun a w G hR=>wp_region_list (WH (K:=Q .normal) (fun an _ _ G' q hR'=>⟨an,G',q,hR'⟩) _ _ _ _ _ hR h)
theorem Ae.aps {id:Nat} {ops:Array Oper} {Q:Exit->St->Prop} (h1:P.follows .mixedOrders =true) (h2:Region.lexB .any ops=true) (h:fC P F.I ops ops.toList st (Q .normal)):Ae P F (.region id ops true) st Q:=by intro a w G hR;refine wp_region_quiet (C:=QL w) h1 h2 ⟨⟨rfl,rfl,rfl⟩,⟨le_refl _,fun _ _=>rfl⟩⟩ ?_;exact WI (K:=Q .normal) (fun an a' q hR' w' hw'=>⟨an,G,q,hR'.same hw'.1 hw'.2⟩) _ _ _ hR h
theorem Ae.mono {c:Code} {Q Q':Exit->St->Prop} (h:Ae P F c st Q) (hq: ∀ e an,Q e an->Q' e an):Ae P F c st Q':=
 fun a w G hR=>Code.wp_mono (by grind) (h a w G hR)
theorem Ae.less {c:Code} {an:St} {Q:Exit->St->Prop} (hl:Cp st an) (h:Ae P F c an Q):Ae P F c st Q:=
 fun a w G hR=>h a w G (hR.less hl)
theorem Ae.loop {X:Type} (S:X->St) (inv:X->Prop) (μ:X->Nat) {c:Code} {Q:Exit->St->Prop} (x0:X) (h0:inv x0) (hl:Cp st (S x0))
 (hb: ∀ x,inv x->Ae P F c (S x) (Cq (fun an=> ∃ y,inv y/\μ y<μ x/\Cp an (S y)) Q)):Ae P F (.loop c) st Q:=by
 intro a w G hR;refine wp_loop_ghost (fun n a' w'=> ∃ x G',inv x/\μ x=n/\R F (S x) a' w' G') (μ x0) ⟨x0,G,h0,rfl,hR.less hl⟩ ?_;intro n a' w' ⟨x,G',hx,hn,hR'⟩;subst hn;refine Code.wp_mono (fun e a'' w'' ⟨an,G'',q,avz⟩=>?_) (hb x hx a' w' G' hR');cases e<;>simp only [Cq]at q
 case normal=>
  obtain⟨y,hy,hm,hl'⟩:=q;exact⟨μ y,hm,y,G'',hy,rfl,avz.less hl'⟩
 all_goals exact⟨an,G'',q,avz⟩
end
end Go.PL
namespace Go.PL
open Go Go.RowKit
def SA (P:Program) (st:St):ResultVar->Prop×V
 | .tmp t=>(True,BF st (st.get t))
 | .cell t T=>let r:=DM P T st (st.get t)
   (r.1,BF st r.2)
def F8 (P:Program) (st:St):List ResultVar->Prop×List V
 | []=>(True,[])
 | x::xs=>((SA P st x).1/\(F8 P st xs).1,(SA P st x).2::(F8 P st xs).2)
def DA (P:Program) (st:St):List ResultVar->Prop×V
 | [x]=>SA P st x
 | xs=>((F8 P st xs).1, .tup (F8 P st xs).2)
def tv (P:Program) (fn:Func) (Q:V->Prop):Exit->St->Prop
 | .normal,st=>(DA P st fn.results.toList).1/\(DA P st fn.results.toList).2.pure =true/\Q (DA P st fn.results.toList).2
 | .ret,st=>(DA P st fn.results.toList).1/\(DA P st fn.results.toList).2.pure =true/\Q (DA P st fn.results.toList).2
 | _,_=>False
def St.start (args:List V) (n:Nat):St:={tm:=args++List.replicate (n - args.length) .undef,so:=[]}
theorem EX {w:World} {G:AG}: ∀ {xs:List V} {vs:List Value},Aq w G xs vs->xs.length=vs.length
 | [],vs,h=>by grind [Aq]
 | x::xs,vs,h=>by simp only [Aq]at h;obtain⟨v,r,rfl,_,h2⟩:=h;simp [EX h2]
def J8 (I:World->Prop):Prop:= ∀ w w':World,I w->w.heap.size<=w'.heap.size->(∀ b,b<w.heap.size->w'.heap[b]? =w.heap[b]?)->I w'
theorem R.start {I:World->Prop} (hst:J8 I) {w:World} (hI:I w) {vs:Array Value} {av:Nat->Prop} (hav: ∀ b,av b->b<w.heap.size) {args:List V} (h:Aq w (im av) args vs.toList) (n:Nat):
 R ⟨w,av,fun _=>False,I,[]⟩ (St.start args n) {tmps:=vs++Array.replicate (n - vs.size) Go.undef,defers:=[]} w (im av):=by
 have hl:=EX h;have hl':args.length=vs.size:=by grind
 exact {
  dfr:=rfl
  size:=by simp [St.start,hl']
  v_:=by
   intro i;simp only [St.start,List.getD_eq_getElem?_getD,Array.getD_eq_getD_getElem?];by_cases hi:i<args.length
   ·grind [Jv]
   grind [Ab]
  F_:=by simp [St.start,Aq]
  store:=by simp [St.start]
  deep:=by simp [St.start]
  x_:=by simp [St.start]
  nodup:=by simp [St.start]
  inj:=by simp [im]
  lt:=by simp [im]
  new:=by simp [im]
  wr:=by simp [im]
  aaS:=hav
  inv:=fun w' h1 h2=>hst w w' hI h1 (by grind)
  aah:=by simp
  os:=rfl,tape:=rfl,output:=rfl,u_:=le_refl _,ext:=fun _ _ _=>rfl}
section
variable {P:Program} {F:Fr} {st:St} {a:Act} {w:World} {G:AG}
theorem R.out (h:R F st a w G) (hold: ∀ b, ¬F.old b) {x:V} {v:Value} (hp:(BF st x).pure =true) (hr:Ab w G x v):Ab w (im F.av) (BF st x) v:=by
 refine fy h (fun b _ hb=>(h.wr b).2 (.inl hb)) (fun id _ _ b hb hav=>?_) hp hr;rcases h.new id b hb with q | q
 ·have:=h.aaS b hav;omega
 grind
theorem fE {t:TypeId} {x:V} {u:Value} (hx:Ab w G x u) (hs:(DM P t st x).1): ∃ p,u= .pointer (some p):=by
 unfold DM at hs;split at hs
 ·simp only [Ab,Ad]at hx;grind
 ·simp only [Ab,Ad]at hx;grind
 grind
def J9 (tmps:Array Value):ResultVar->Sem Value
 | .tmp t=>pure (tmps.getD t Go.undef)
 | .cell a t=>do loadVar t (<-asAddr (tmps.getD a Go.undef))
theorem Y8 (h:R F st a w G) (hold: ∀ b, ¬F.old b) {x:ResultVar} (hs:(SA P st x).1) (hp:(SA P st x).2.pure =true):
 ∃ v,(J9 a.tmps x).run P w= .ok v w/\Ab w (im F.av) (SA P st x).2 v:=by
 cases x with
 | tmp t=>exact⟨_,rfl,h.out hold hp (h.v_ t)⟩
 | cell t T=>
   simp only [SA]at hs hp ⊢;obtain⟨v,q1,q2⟩:=OI (P:=P) h (h.v_ t) hs;obtain⟨p,ay4⟩:=fE (h.v_ t) hs;refine⟨v,?_,h.out hold hp q1⟩;grind [C1.refl,J9,asAddr,Instr.loadAt,Instr.sureAddr]
theorem WJ (h:R F st a w G) (hold: ∀ b, ¬F.old b): ∀ {xs:List ResultVar},(F8 P st xs).1->Ci (F8 P st xs).2=true->
 ∃ vs,(xs.mapM (J9 a.tmps)).run P w= .ok vs w/\Aq w (im F.av) (F8 P st xs).2 vs
 | [],_,_=>(by simp_all [F8,Aq])
 | x::xs,hs,hp=>by simp only [F8]at hs hp ⊢;simp only [Ci,and_eq_true]at hp;obtain⟨v,q1,q2⟩:=Y8 h hold hs.1 hp.1;obtain⟨vs,k1,k2⟩:=WJ h hold hs.2 hp.2;exact⟨v::vs,by simp_all,by simp only [Aq];grind⟩
theorem F9 {fn:Func} {tmps:Array Value} {vs:List Value} (h:(fn.results.toList.mapM (J9 tmps)).run P w= .ok vs w):
 (results fn tmps).run P w= .ok (match vs with | [v]=>v | vs=> .tuple vs.toArray) w:=by
 have e:fn.results.mapM (J9 tmps)=List.toArray<$>fn.results.toList.mapM (J9 tmps):=by obtain⟨l,hl⟩: ∃ l:List ResultVar,fn.results=l.toArray:=(by grind);grind
 have e2:results fn tmps=(do
  let vs <-fn.results.mapM (J9 tmps)
  pure (if h:vs.size=1 then vs[0]else .tuple vs)):=by
  unfold results;congr 1
  all_goals (try (congr 1;funext x;cases x<;>rfl))
 rw [e2,e];simp only [Sem.run_bind,Sem.run_map,h,Result.andThen_ok]
 match vs with
 | []=>simp
 | [v]=>simp
 | v::u::vs=>simp
theorem qy (h:R F st a w G) (hold: ∀ b, ¬F.old b) {fn:Func} (hs:(DA P st fn.results.toList).1) (hp:(DA P st fn.results.toList).2.pure =true):
 ∃ v,(results fn a.tmps).run P w= .ok v w/\Ab w (im F.av) (DA P st fn.results.toList).2 v:=by
 unfold DA at *;split at hs
 ·rename_i x hx;simp only [hx]at hp ⊢;obtain⟨v,q1,q2⟩:=Y8 h hold hs hp;simp_all [F9]
 ·rename_i xs Tj;split at hp
  ·grind
  ·obtain⟨vs,q1,q2⟩:=WJ h hold hs (by simpa only [V.pure] using hp);refine⟨.tuple vs.toArray,?_,?_⟩
   ·have:=F9 (P:=P) (w:=w) (fn:=fn) (tmps:=a.tmps) q1;rw [this];have hl:=EX q2
    match hvs:vs with
    | []=>rfl
    | [v]=>
      exfalso;have hxl: ∀ xs:List ResultVar,(F8 P st xs).2.length =xs.length:=by intro xs;induction xs<;>grind [F8]
      rw [hxl]at hl
      match hr:fn.results.toList,hl with
      | [x],_=>grind
    | v::u::vs=>rfl
   ·simp only [Ab];grind
theorem R.below (h:R F st a w G) (hold: ∀ b, ¬F.old b):Below F.w0.heap.size F.w0 w:=⟨h.os,h.tape,h.output,h.u_,fun b hb=>h.ext b hb (hold b)⟩
end
theorem Cd.of {P:Program} {I:World->Prop} (hst:J8 I) {f:FuncId} {fn:Func} {c:Code} {args:List V} {Q:V->Prop} (abr:PL.ent P f=true) (hf:P.funcs[f]? =some fn) (hb:fn.body=some c)
 (h: ∀ F,F.I=I->Ae P F c (St.start args fn.ntmps) (tv P fn Q)):Cd P I f args Q:=by
 refine⟨abr,fun w vs av hI hav ab9=>calls_of_wp hf hb ?_⟩;have hR:=R.start hst hI hav ab9 fn.ntmps;refine Code.wp_mono (fun e a' w' ⟨an,G',q,hR'⟩=>?_) (h _ rfl _ _ _ hR);have fin:(DA P an fn.results.toList).1/\(DA P an fn.results.toList).2.pure =true/\Q (DA P an fn.results.toList).2->
  a'.defers=[]/\ ∃ v,(results fn a'.tmps).run P w'= .ok v w'/\(fun(e:Ending) w''=> ∃ v r,e= .returned v/\Q r/\r.pure=true/\Ab w'' (im av) r v/\Below w.heap.size w w'') (.returned v) w':=by
  intro ⟨q1,q2,q3⟩;obtain⟨v,k1,k2⟩:=qy hR' (fun _ hx=>hx) (fn:=fn) q1 q2;exact⟨hR'.dfr,v,k1,v,_,rfl,q3,q2,k2,hR'.below (fun _ hx=>hx)⟩
 cases e<;>simp only [tv]at q<;>first | exact fin q | exact q.elim
end Go.PL
namespace Go.PL
open Go Go.RowKit
section
variable {P:Program} {I:World->Prop} {F:Fr} {ops:Array Oper} {rest:List Oper} {st st1:St} {d:Option Nat} {op:Op} {ty:TypeId} {pos:String} {af:Array Edge}
variable {K:St->Prop}
theorem Cl.out {Q:Exit->St->Prop} {i:Nat} (h:Q .normal st):Cl i Q (.exit i) st:=by simp_all [Cl]
variable {j:Nat} {want g:Bool}
theorem Cd.body (ahw:J8 I) {f:FuncId} {fn:Func} {c:Code} {args:List V} {Q:V->Prop} {n:Nat} {rs:List ResultVar} (abr:PL.ent P f=true) (hf:P.funcs[f]? =some fn) (hb:fn.body=some c) (hn:fn.ntmps=n) (hr:fn.results=rs.toArray)
 (hst:St.start args n=st)
 (h: ∀ w0 av old gv,Ae P ⟨w0,av,old,I,gv⟩ c st (fun e an=>(e= .normal \/e= .ret)/\(DA P an rs).1/\(DA P an rs).2.pure =true/\Q (DA P an rs).2)):Cd P I f args Q:=by
 refine Cd.of ahw abr hf hb (fun F hF=>?_);obtain⟨w0,av,old,I',gv⟩:=F;simp only at hF;subst hF;rw [hn,hst];refine(h w0 av old gv).mono fun e an ⟨he,q⟩=>?_;have:fn.results.toList=rs:=by rw [hr]
 rcases he with rfl | rfl<;>simp only [tv,this]<;>exact q
end
end Go.PL
namespace Go.PL
open Go Go.RowKit
attribute [go_sem] Ck DZ rd M_ Rc St.arg St.args St.ev St.get MV CW D5 YV Rb XM OJ BL K1 L7 L8 unV dg qq C5 df
 St.put St.after St.look St.acS St.adw St.cutAt St.freeze St.new St.kill Aw.kill St.start St.parts
 DM toV B2 JS Ch IM Hi Q9 qm qn LI K4 K3 MX ON JZ V.cells Hk XN qr Gy WE K7 Bh PL.ef Sv
 Je K9 BF Sy xw C2 Ig Ff C.p_ BP V.p_ LG C.flat V.flat LJ C.pure Ao V.pure Ci DA SA F8 KW Mc N6 St.acs
attribute [go_sem] getD_cons_zero List.getD_cons_succ List.set_cons_zero List.set_cons_succ map_cons List.map_nil List.filter_cons List.filter_nil List.find?_cons List.find?_nil
 cons_append List.nil_append List.length_cons List.length_nil List.replicate_succ List.replicate_zero List.take_succ_cons List.take_zero List.drop_succ_cons List.drop_zero flatMap_cons List.flatMap_nil List.append_nil
 List.all_cons List.all_nil Bool.and_true Bool.true_and Bool.and_false Bool.false_and Bool.or_false Bool.or_true Bool.false_or Bool.true_or
 beq_self_eq_true if_true if_false true_and and_true map_some Option.map_none List.getElem?_cons_zero List.getElem?_cons_succ
theorem Aez {α:Type} (a b:α):(if true then a else b)=a:=rfl
theorem AeA {α:Type} (a b:α):(if false then a else b)=b:=rfl
theorem Ahf:(true=true)=True:=by simp
theorem Ahg:(false=true)=False:=by simp
theorem AeB (p:Prop):(true=true->p)=p:=by simp
theorem apH (b:Bool):(if b then true else false)=b:=by grind
theorem amW (b:Bool):(b==true)=b:=by simp_all
theorem alM (b:Bool):(b==false)= !b:=by grind
theorem Abh (b c:Bool):(if b then c else false)=(b&&c):=by grind
theorem AeC (b c:Bool):(if b then true else c)=(b||c):=by grind
attribute [go_sem] Aez AeA Ahf Ahg AeB apH amW alM Abh AeC Bool.not_true Bool.not_false Bool.not_not
end Go.PL
