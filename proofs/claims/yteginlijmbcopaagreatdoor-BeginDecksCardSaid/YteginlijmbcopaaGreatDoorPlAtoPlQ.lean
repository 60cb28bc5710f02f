/- The pure logic: PlA, PlB, PlC, PlD, PlE, PlF, PlG, PlH, PlI, PlJ, PlK, PlL, PlLe, PlM, PlN, PlO, PlP, PlQ. -/
import Derived.WalkKit
import Derived.WalkSpells
import Derived.WalkLawsBesides
import Derived.Deep.MidRow
import Derived.Deep.LoopGhost
import Derived.Deep.QuietTactic
import Derived.BigQuiet
import Derived.Laws.StructEq
import Derived.DeepKeys
open Nat (le_refl lt_of_lt_of_le zero_le add_mul le_trans add_zero)
open Bool (and_eq_true false_eq_true not_eq_true')
open List (map_cons mem_map mem_filter take_append_drop find?_some drop_drop flatMap_cons mem_iff_getElem getD_cons_zero cons_append foldl_cons map_map)
open Option.some (injEq)
open Option (map_some)
set_option linter.all false
namespace Go.PL
open Go Go.RowKit
abbrev Ah:=List Nat
inductive C where
 | int (k:IntKind) (n:Int)
 | bool (b:Bool)
 | str (s:List UInt8)
 | sl (len:Nat) (cs:List C)
 | j_ (id:Ah)
 | ptr (id:Ah) (off:Nat)
 | bsl (id:Ah) (off len:Nat)
 | bld (id:Ah) (T:TypeId)
 | aby (cs:List C) (off:Nat)
 | ab_
 | aag
 | L_
 | fn (f:FuncId)
 | clo (f:FuncId) (cs:List C)
 | held
 | any
 | afo (id:Ah)
 | afy (g off:Nat)
 | bmv (f:FuncId) (cs:List C)
 | mp (kv:List (Int×Int))
 | isl (E:TypeId) (n len:Nat) (cs:List C)
 | rsl (id:Ah) (N off len:Nat)
inductive V where
 | c (x:C)
 | agg (cs:List C)
 | tup (vs:List V)
 | g (b:Bool) (v:V)
 | undef
structure AF where
 o_:Ah->Option Nat
 own:Ah->Option Value
 wr:Nat->Prop
mutual
def C.pure:C->Bool
 | .j_ _=>false
 | .ptr .. =>false
 | .bsl .. =>false
 | .rsl .. =>false
 | .bld .. =>false
 | .afo _=>false
 | .mp _=>false
 | .clo _ cs=>Am cs
 | .bmv _ cs=>Am cs
 | _=>true
def Am:List C->Bool
 | []=>true
 | c::cs=>c.pure&&Am cs
end
mutual
def Ae (w:World) (G:AF):C->Value->Prop
 | .int k n,v=>v= .int k n
 | .bool b,v=>v= .bool b
 | .str s,v=>v= .string ⟨s.toArray⟩
 | .sl len cs,v=>Am cs=true/\ ∃ a cap,v= .slice a len cap/\len<=cap/\cap<=maxLen/\(len=0->cs=[])/\
  (len=0\/ ∃ b off,a=some ⟨b,off,none⟩/\ ¬G.wr b/\b<w.heap.size/\Al w G cs b off)
 | .j_ id,v=>G.own id=some v/\v.oneCell'=true
 | .ptr id off,v=> ∃ b,G.o_ id=some b/\v= .pointer (some ⟨b,off,none⟩)
 | .bsl id off len,v=> ∃ b cap o,G.o_ id=some b/\v= .slice (some ⟨b,o,none⟩) len cap/\len<=cap/\o<=off/\(len=0\/o=off)
 | .bld id T,v=> ∃ b,G.o_ id=some b/\(∃ cur fz,w.heap[b]? =some (.cells cur T fz))/\(v= .pointer none\/v= .pointer (some ⟨b,0,none⟩))
 | .aby cs off,v=>Am cs=true/\ ∃ b o,v= .pointer (some ⟨b,o+off,none⟩)/\ ¬G.wr b/\b<w.heap.size/\Al w G cs b o
 | .ab_,v=>v= .pointer none
 | .aag,v=>v= .nilIface
 | .L_,v=>v= .slice none 0 0
 | .fn f,v=>v= .func (.func f) #[] #[]
 | .clo f cs,v=> ∃ arr:Array Value,v= .func (.func f) #[] arr/\Ai w G cs arr.toList
 | .bmv f cs,v=> ∃ arr:Array Value,v= .func (.func f) arr #[]/\Ai w G cs arr.toList
 | .held,v=> ∃ t x,v= .iface t x
 | .any,v=>v.oneCell'=true
 | .afo id,v=> ∃ b,G.o_ id=some b/\v= .map (some b)
 | .afy g off,v=>v= .pointer (some ⟨g,off,none⟩)
 | .mp _,_=>False
 | .isl ..,v=>v.oneCell'=true
 | .rsl id N off len,v=> ∃ b ag1 ahV o cap,G.own id=some (.slice (some ⟨b,0,none⟩) ag1 ahV)/\v= .slice (some ⟨b,o,none⟩) len cap/\len<=cap/\off+cap=ahV/\(off<ahV->o=off*N)
def Al (w:World) (G:AF):List C->Nat->Nat->Prop
 | [],_,_=>True
 | c::cs,b,off=>(∃ v,w.cell? ⟨b,off,none⟩=some v/\Ae w G c v)/\Al w G cs b (off+1)
def Ai (w:World) (G:AF):List C->List Value->Prop
 | [],[]=>True
 | c::cs,v::vs=>Ae w G c v/\Ai w G cs vs
 | [],_::_=>False
 | _::_,[]=>False
end
mutual
def Ab (w:World) (G:AF):V->Value->Prop
 | .c x,v=>Ae w G x v
 | .agg cs,v=> ∃ arr,v= .agg arr/\Ai w G cs arr.toList
 | .tup vs,v=> ∃ arr,v= .tuple arr/\As w G vs arr.toList
 | .g b x,v=>if b then Ab w G x v else v=Go.undef
 | .undef,_=>True
def As (w:World) (G:AF):List V->List Value->Prop
 | [],vs=>vs=[]
 | x::xs,vs=> ∃ v r,vs=v::r/\Ab w G x v/\As w G xs r
end
mutual
def C.p_ (id:Ah):C->Bool
 | .j_ i=>i==id
 | .ptr i _=>i==id
 | .bsl i _ _=>i==id
 | .rsl i _ _ _=>i==id
 | .bld i _=>i==id
 | .afo i=>i==id
 | .clo _ cs=>BU id cs
 | .bmv _ cs=>BU id cs
 | _=>false
def BU (id:Ah):List C->Bool
 | []=>false
 | c::cs=>c.p_ id||BU id cs
end
mutual
theorem Im (id:Ah): ∀ c:C,c.pure=true->c.p_ id=false
 | .j_ _,h=>by simp [C.pure]at h
 | .ptr ..,h=>by simp [C.pure]at h
 | .bsl ..,h=>by simp [C.pure]at h
 | .rsl ..,h=>by simp [C.pure]at h
 | .bld ..,h=>by simp [C.pure]at h
 | .afo ..,h=>by simp [C.pure]at h
 | .mp ..,h=>by simp [C.pure]at h
 | .isl ..,_=>by simp [C.p_]
 | .afy ..,_=>by simp [C.p_]
 | .clo _ cs,h=>by simp only [C.p_];exact AQ id cs (by simpa only [C.pure] using h)
 | .bmv _ cs,h=>by simp only [C.p_];exact AQ id cs (by simpa only [C.pure] using h)
 | .sl ..,_=>by simp [C.p_]
 | .aby ..,_=>by simp [C.p_]
 | .int ..,_=>by simp [C.p_]
 | .bool _,_=>by simp [C.p_]
 | .str _,_=>by simp [C.p_]
 | .ab_,_=>by simp [C.p_]
 | .aag,_=>by simp [C.p_]
 | .L_,_=>by simp [C.p_]
 | .fn _,_=>by simp [C.p_]
 | .held,_=>by simp [C.p_]
 | .any,_=>by simp [C.p_]
theorem AQ (id:Ah): ∀ cs:List C,Am cs=true->BU id cs=false
 | [],_=>by simp [BU]
 | c::cs,h=>by simp only [Am,and_eq_true]at h;simp [BU,Im id c h.1,AQ id cs h.2]
end
theorem Cn: ∀ l:List C,Am l=l.all C.pure
 | []=>rfl
 | c::l=>by simp [Am,Cn l]
theorem BZ (l m:List C):Am (l++m)=(Am l&&Am m):=by simp [Cn]
theorem O1 {α:Type} (f:α->C) (h: ∀ x,(f x).pure =true) (l:List α):Am (l.map f)=true:=by simp [Cn,h]
theorem AV {α:Type} (f:α->List C) (h: ∀ x,Am (f x)=true): ∀ l:List α,Am (l.flatMap f)=true
 | []=>rfl
 | a::l=>by rw [flatMap_cons,BZ,h,AV f h l];rfl
theorem MI {l:List C} (n:Nat) (h:Am l=true):Am (l.take n)=true:=by grind [Cn]
theorem MJ {l:List C} (n:Nat) (h:Am l=true):Am (l.drop n)=true:=by grind [Cn]
theorem qO {l:List C} (n:Nat) (h:Am l=true):(l.getD n .any).pure =true:=by
 rw [List.getD_eq_getElem?_getD];cases hx:l[n]? with
 | none=>rfl
 | some x=>grind [Cn]
def JR (S:Ah->Prop) (G G':AF):Prop:= ∀ id,S id->G'.o_ id=G.o_ id/\G'.own id=G.own id
def Co (w w':World) (b:Nat):Prop:= ∀ cur T fz,w.heap[b]? =some (.cells cur T fz)-> ∃ ac8 fz',w'.heap[b]? =some (.cells ac8 T fz')
theorem Co.same {w w':World} {b:Nat} (h:w'.heap[b]? =w.heap[b]?):Co w w' b:=fun cur _ fz q=>⟨cur,fz,h.trans q⟩
structure Cu (G G':AF) (w w':World):Prop where
 size:w.heap.size<=w'.heap.size
 block: ∀ b,b<w.heap.size-> ¬G.wr b->w'.heap[b]? =w.heap[b]?
 wr: ∀ b,b<w.heap.size->G'.wr b->G.wr b
 ty: ∀ i b,G.o_ i=some b->G'.o_ i=some b->Co w w' b
mutual
theorem Ae.one {w:World} {G:AF}: ∀ {c:C} {v:Value},Ae w G c v->v.oneCell'=true
 | .int ..,v,h=>by simp only [Ae]at h;subst h;rfl
 | .bool ..,v,h=>by simp only [Ae]at h;subst h;rfl
 | .str ..,v,h=>by simp only [Ae]at h;subst h;rfl
 | .sl ..,v,h=>by simp only [Ae]at h;obtain⟨_,a,cap,rfl,_⟩:=h;rfl
 | .j_ _,v,h=>by grind [Ae]
 | .ptr ..,v,h=>by simp only [Ae]at h;obtain⟨b,_,rfl⟩:=h;rfl
 | .bsl ..,v,h=>by simp only [Ae]at h;obtain⟨b,cap,o,_,rfl,_⟩:=h;rfl
 | .rsl ..,v,h=>by simp only [Ae]at h;obtain⟨_,_,_,_,_,_,rfl,_⟩:=h;rfl
 | .bld ..,v,h=>by simp only [Ae]at h;obtain⟨b,_,_,rfl | rfl⟩:=h<;>rfl
 | .aby ..,v,h=>by simp only [Ae]at h;obtain⟨_,b,o,rfl,_⟩:=h;rfl
 | .ab_,v,h=>by simp only [Ae]at h;subst h;rfl
 | .aag,v,h=>by simp only [Ae]at h;subst h;rfl
 | .L_,v,h=>by simp only [Ae]at h;subst h;rfl
 | .fn _,v,h=>by simp only [Ae]at h;subst h;rfl
 | .clo ..,v,h=>by simp only [Ae]at h;obtain⟨arr,rfl,_⟩:=h;rfl
 | .bmv ..,v,h=>by simp only [Ae]at h;obtain⟨arr,rfl,_⟩:=h;rfl
 | .held,v,h=>by simp only [Ae]at h;obtain⟨t,x,rfl⟩:=h;rfl
 | .any,v,h=>by grind [Ae]
 | .afo ..,v,h=>by simp only [Ae]at h;obtain⟨b,_,rfl⟩:=h;rfl
 | .mp ..,v,h=>by simp only [Ae]at h
 | .isl ..,v,h=>by grind [Ae]
 | .afy ..,v,h=>by simp only [Ae]at h;subst h;rfl
end
theorem W_ {w w':World} {b:Nat} (h:w'.heap[b]? =w.heap[b]?) (o:Nat):w'.cell? ⟨b,o,none⟩=w.cell? ⟨b,o,none⟩:=
 (by grind [World.cell?_of_block])
mutual
theorem Ae.mono {w w':World} {G G':AF} (hk:Cu G G' w w'): ∀ (c:C) (v:Value),JR (fun id=>c.p_ id=true) G G'->Ae w G c v->Ae w' G' c v
 | .int ..,_,_,h=>by grind [Ae]
 | .bool ..,_,_,h=>by grind [Ae]
 | .str ..,_,_,h=>by grind [Ae]
 | .sl len cs,v,ha,h=>by
   simp only [Ae]at h ⊢;obtain⟨hp,a,cap,h1,h2,h3,h4,h5⟩:=h;refine⟨hp,a,cap,h1,h2,h3,h4,?_⟩;rcases h5 with h5 | ⟨b,off,e,hm,hb,hr⟩
   ·grind
   ·exact .inr ⟨b,off,e,fun hm'=>hm (hk.wr b hb hm'),lt_of_lt_of_le hb hk.size,Al.mono hk cs b off (fun id hid=>absurd (show BU id cs=true from hid) (by rw [AQ id cs hp];simp)) (fun o=>W_ (hk.block b hb hm) o) hr⟩
 | .j_ id,v,ha,h=>by simp only [Ae]at h ⊢;rw [(ha id (by simp [C.p_])).2];exact h
 | .ptr id off,v,ha,h=>by simp only [Ae]at h ⊢;rw [(ha id (by simp [C.p_])).1];exact h
 | .bsl id off len,v,ha,h=>by simp only [Ae]at h ⊢;rw [(ha id (by simp [C.p_])).1];exact h
 | .rsl id N off len,v,ha,h=>by simp only [Ae]at h ⊢;rw [(ha id (by simp [C.p_])).2];exact h
 | .bld id T,v,ha,h=>by
   simp only [Ae]at h ⊢;obtain⟨b,h1,⟨cur,fz,h2⟩,h3⟩:=h;have h4:G'.o_ id=some b:=by rw [(ha id (by simp [C.p_])).1];exact h1
   exact⟨b,h4,hk.ty id b h1 h4 cur T fz h2,h3⟩
 | .aby cs off,v,ha,h=>by simp only [Ae]at h ⊢;obtain⟨hp,b,o,e,hm,hb,hr⟩:=h;exact⟨hp,b,o,e,fun hm'=>hm (hk.wr b hb hm'),lt_of_lt_of_le hb hk.size,Al.mono hk cs b o (fun id hid=>absurd (show BU id cs=true from hid) (by rw [AQ id cs hp];simp)) (fun o=>W_ (hk.block b hb hm) o) hr⟩
 | .ab_,_,_,h=>by grind [Ae]
 | .aag,_,_,h=>by grind [Ae]
 | .L_,_,_,h=>by grind [Ae]
 | .fn _,_,_,h=>by grind [Ae]
 | .clo f cs,v,ha,h=>by simp only [Ae]at h ⊢;obtain⟨arr,e,hr⟩:=h;exact⟨arr,e,Ai.mono hk cs _ (fun id hid=>ha id (by simpa only [C.p_] using hid)) hr⟩
 | .bmv f cs,v,ha,h=>by simp only [Ae]at h ⊢;obtain⟨arr,e,hr⟩:=h;exact⟨arr,e,Ai.mono hk cs _ (fun id hid=>ha id (by simpa only [C.p_] using hid)) hr⟩
 | .held,_,_,h=>by grind [Ae]
 | .any,_,_,h=>by grind [Ae]
 | .afo id,v,ha,h=>by simp only [Ae]at h ⊢;rw [(ha id (by simp [C.p_])).1];exact h
 | .mp ..,_,_,h=>by simp only [Ae]at h
 | .isl ..,_,_,h=>by grind [Ae]
 | .afy ..,_,_,h=>by grind [Ae]
theorem Al.mono {w w':World} {G G':AF} (hk:Cu G G' w w'): ∀ (cs:List C) (b off:Nat),JR (fun id=>BU id cs=true) G G'->(∀ o,w'.cell? ⟨b,o,none⟩=w.cell? ⟨b,o,none⟩)->Al w G cs b off->Al w' G' cs b off
 | [],_,_,_,_,h=>by simp only [Al]
 | c::cs,b,off,ha,hc,h=>by
   simp only [Al]at h ⊢;obtain⟨⟨v,hv,hr⟩,aih⟩:=h;exact⟨⟨v,by grind,Ae.mono hk c v (fun id hid=>ha id (by simp_all [BU])) hr⟩,
    Al.mono hk cs b (off+1) (fun id hid=>ha id (by simp_all [BU])) hc aih⟩
theorem Ai.mono {w w':World} {G G':AF} (hk:Cu G G' w w'): ∀ (cs:List C) (vs:List Value),JR (fun id=>BU id cs=true) G G'->Ai w G cs vs->Ai w' G' cs vs
 | [],[],_,_=>by simp only [Ai]
 | [],_::_,_,h=>by simp only [Ai]at h
 | _::_,[],_,h=>by simp only [Ai]at h
 | c::cs,v::vs,ha,h=>by
   simp only [Ai]at h ⊢;exact⟨Ae.mono hk c v (fun id hid=>ha id (by simp_all [BU])) h.1,
    Ai.mono hk cs vs (fun id hid=>ha id (by simp_all [BU])) h.2⟩
end
mutual
def V.p_ (id:Ah):V->Bool
 | .c x=>x.p_ id
 | .agg cs=>BU id cs
 | .tup vs=>LA id vs
 | .g b v=>v.p_ id&&b
 | .undef =>false
def LA (id:Ah):List V->Bool
 | []=>false
 | v::vs=>v.p_ id||LA id vs
end
mutual
theorem Ab.mono {w w':World} {G G':AF} (hk:Cu G G' w w'): ∀ (x:V) (v:Value),JR (fun id=>x.p_ id=true) G G'->Ab w G x v->Ab w' G' x v
 | .c x,v,ha,h=>by grind [Ab,Ae.mono,V.p_]
 | .agg cs,v,ha,h=>by grind [Ab,Ai.mono,V.p_]
 | .tup vs,v,ha,h=>by simp only [Ab]at h ⊢;obtain⟨arr,e,hr⟩:=h;exact⟨arr,e,As.mono hk vs _ (by simpa only [V.p_] using ha) hr⟩
 | .g b x,v,ha,h=>by
   simp only [Ab]at h ⊢;split
   ·rename_i hb;rw [if_pos hb]at h;exact Ab.mono hk x v (fun id hid=>ha id (by simp only [V.p_,hb,hid,Bool.and_self])) h
   grind
 | .undef,_,_,_=>by simp only [Ab]
theorem As.mono {w w':World} {G G':AF} (hk:Cu G G' w w'): ∀ (xs:List V) (vs:List Value),JR (fun id=>LA id xs=true) G G'->As w G xs vs->As w' G' xs vs
 | [],_,_,h=>by grind [As]
 | x::xs,vs,ha,h=>by
   simp only [As]at h ⊢;obtain⟨v,r,e,h1,h2⟩:=h;exact⟨v,r,e,Ab.mono hk x v (fun id hid=>ha id (by simp_all [LA])) h1,
    As.mono hk xs r (fun id hid=>ha id (by simp_all [LA])) h2⟩
end
theorem Ai.length {w:World} {G:AF}: ∀ {cs:List C} {vs:List Value},Ai w G cs vs->cs.length=vs.length
 | [],[],_=>rfl
 | [],_::_,h=>by simp only [Ai]at h
 | _::_,[],h=>by simp only [Ai]at h
 | c::cs,v::vs,h=>by simp only [Ai]at h;simp [Ai.length h.2]
theorem Ai.get {w:World} {G:AF}: ∀ {cs:List C} {vs:List Value},Ai w G cs vs-> ∀ (i:Nat) (c:C),cs[i]? =some c-> ∃ v,vs[i]? =some v/\Ae w G c v
 | [],[],_,i,c,hc=>by simp at hc
 | [],_::_,h,_,_,_=>by grind
 | _::_,[],h,_,_,_=>by simp only [Ai]at h
 | c::cs,v::vs,h,i,d,hd=>by
   simp only [Ai]at h;cases i with
   | zero=>simp at hd;subst hd;exact⟨v,by simp,h.1⟩
   | succ i=>simp at hd;obtain⟨v',h1,h2⟩:=Ai.get h.2 i d hd;exact⟨v',by simpa using h1,h2⟩
theorem Ai.one {w:World} {G:AF}: ∀ {cs:List C} {vs:List Value},Ai w G cs vs-> ∀ v∈vs,v.oneCell'=true
 | [],[],_,v,hv=>by cases hv
 | [],_::_,h,_,_=>by simp only [Ai]at h
 | _::_,[],h,_,_=>by grind
 | c::cs,v::vs,h,u,hu=>by
   simp only [Ai]at h;rcases List.mem_cons.1 hu with rfl | hu
   ·exact Ae.one h.1
   ·exact Ai.one h.2 u hu
theorem Ai.drop {w:World} {G:AF}: ∀ {cs:List C} {vs:List Value},Ai w G cs vs-> ∀ n,Ai w G (cs.drop n) (vs.drop n)
 | cs,vs,h,0=>by grind
 | [],[],h,n+1=>by simp [Ai]
 | [],_::_,h,_+1=>by simp only [Ai]at h
 | _::_,[],h,_+1=>by simp only [Ai]at h
 | c::cs,v::vs,h,n+1=>by simp only [Ai]at h;simpa using Ai.drop h.2 n
theorem Ai.take {w:World} {G:AF}: ∀ {cs:List C} {vs:List Value},Ai w G cs vs-> ∀ n,Ai w G (cs.take n) (vs.take n)
 | cs,vs,h,0=>by simp [Ai]
 | [],[],h,n+1=>by simp [Ai]
 | [],_::_,h,_+1=>by simp only [Ai]at h
 | _::_,[],h,_+1=>by simp only [Ai]at h
 | c::cs,v::vs,h,n+1=>by simp only [Ai]at h;simp only [List.take_succ_cons,Ai];exact⟨h.1,Ai.take h.2 n⟩
theorem Ai.append {w:World} {G:AF}: ∀ {cs:List C} {vs:List Value} {ds:List C} {us:List Value},Ai w G cs vs->Ai w G ds us->Ai w G (cs++ds) (vs++us)
 | [],[],_,_,_,h'=>by grind
 | [],_::_,_,_,h,_=>by simp only [Ai]at h
 | _::_,[],_,_,h,_=>by simp only [Ai]at h
 | c::cs,v::vs,ds,us,h,h'=>by simp only [Ai]at h;simp only [cons_append,Ai];exact⟨h.1,Ai.append h.2 h'⟩
theorem Al.list {w:World} {G:AF}: ∀ {cs:List C} {b off:Nat},Al w G cs b off-> ∃ vs,Ai w G cs vs/\w.rangeAt b off vs
 | [],b,off,_=>⟨[],by simp only [Ai],fun j v h=>by simp at h⟩
 | c::cs,b,off,h=>by
   simp only [Al]at h;obtain⟨⟨v,hv,hr⟩,aih⟩:=h;obtain⟨vs,h1,h2⟩:=Al.list aih;refine⟨v::vs,by simp only [Ai];exact⟨hr,h1⟩,fun j u hu=>?_⟩;cases j with
   | zero=>simp at hu;subst hu;simpa using hv
   | succ j=>simp at hu;have:=h2 j u hu;rw [show off+(j+1)=off+1+j by omega];exact this
theorem Al.aau {w:World} {G:AF}: ∀ {cs:List C} {vs:List Value} {b off:Nat},Ai w G cs vs->w.rangeAt b off vs->Al w G cs b off
 | [],[],b,off,_,_=>by simp only [Al]
 | [],_::_,_,_,h,_=>by simp only [Ai]at h
 | _::_,[],_,_,h,_=>by simp only [Ai]at h
 | c::cs,v::vs,b,off,h,hr=>by simp only [Ai]at h;simp only [Al];refine⟨⟨v,by simpa using hr 0 v (by simp),h.1⟩,Al.aau h.2 (fun j u hu=>?_)⟩;have:=hr (j+1) u (by simpa using hu);rw [show off+1+j=off+(j+1) by omega];exact this
theorem Al.drop {w:World} {G:AF} {cs:List C} {b off:Nat} (h:Al w G cs b off) (n:Nat):Al w G (cs.drop n) b (off+n):=by obtain⟨vs,h1,h2⟩:=h.list;refine Al.aau (h1.drop n) (fun j v hv=>?_);rw [List.getElem?_drop]at hv;have:=h2 _ v hv;grind
theorem Al.take {w:World} {G:AF} {cs:List C} {b off:Nat} (h:Al w G cs b off) (n:Nat):Al w G (cs.take n) b off:=by
 obtain⟨vs,h1,h2⟩:=h.list;refine Al.aau (h1.take n) (fun j v hv=>?_);rw [List.getElem?_take]at hv;split at hv
 ·exact h2 j v hv
 ·cases hv
end Go.PL
namespace Go.PL
open Go Go.RowKit
structure Au where
 id:Ah
 row:Option (TypeId×Nat×Nat)
 cs:List C
 pu:Bool:=false
structure St where
 tm:List V
 so:List Au
 gh:List V:=[]
 pre:Ah:=[]
structure Fr where
 w0:World
 av:Nat->Prop
 old:Nat->Prop
 I:World->Prop
 gv:List Value:=[]
def Aeg (kv:List (Int×Int)) (es:List MapEntry):Prop:=
 es=kv.zipIdx.map fun p=>⟨.int .i64 p.1.1, .int .i64 p.1.2,p.2⟩
def tv (w:World) (G:AF) (cs:List C) (b:Nat):Prop:=
 (∃ kv es,cs=[.mp kv]/\w.heap[b]? =some (.map es kv.length)/\Aeg kv es.toList/\(kv.map (·.1)).Nodup)\/
 (∃ T cur,w.heap[b]? =some (.cells cur T (0,0))/\cur.size=cs.length/\Al w G cs b 0)
def eg:List C->Bool
 | [.mp _]=>true
 | _=>false
theorem tv.cells {w:World} {G:AF} {cs:List C} {b:Nat} (h:tv w G cs b) (hn:eg cs=false): ∃ T cur,w.heap[b]? =some (.cells cur T (0,0))/\cur.size=cs.length/\Al w G cs b 0:=by
 rcases h with ⟨kv,es,rfl,_⟩ | h
 ·cases hn
 ·exact h
def Ba (w:World) (G:AF) (e:Au):Prop:=
 match e.row with
 | none=> ∃ b,G.o_ e.id=some b/\tv w G e.cs b
 | some (E,n,len)=>e.cs.length=len*n/\ ∃ v,G.own e.id=some v/\
  ((∃ p,v= .slice p 0 0/\len=0/\G.o_ e.id=none)\/
   ∃ b cap cur,v= .slice (some ⟨b,0,none⟩) len cap/\G.o_ e.id=some b/\w.heap[b]? =some (.cells cur E (0,0))/\len<=cap/\cap<=maxLen/\cur.size=cap*n/\Al w G e.cs b 0)
def CM:Ah->Bool
 | []=>false
 | d::_=>Nat.beq d 1000007
def Ep:Ah->Bool
 | []=>false
 | d::_=>Nat.beq d 1000003
def BR (k:Nat) (id:Ah):Ah:=1000007::k::id
theorem Q1 {k j:Nat} {a b:Ah} (h:BR k a=BR j b):k=j/\a=b:=by grind [BR]
theorem iv (k:Nat) (id:Ah):CM (BR k id)=true:=rfl
def E9 (w:World) (G:AF) (e:Au):Prop:=
 ∀ k E n len cs,e.cs[k]? =some (.isl E n len cs)->Am cs=true/\Ba w G ⟨BR k e.id,some (E,n,len),cs,true⟩/\
   ∃ b v,G.o_ e.id=some b/\w.cell? ⟨b,k,none⟩=some v/\G.own (BR k e.id)=some v
def By (w:World) (G:AF) (e:Au):Prop:=CM e.id=false/\(Ep e.id=true->e.pu=true/\e.row.isSome=true/\E9 w G e)
structure R (F:Fr) (st:St) (a:Act) (w:World) (G:AF):Prop where
 dfr:a.defers=[]
 size:a.tmps.size=st.tm.length
 w_: ∀ i,Ab w G (st.tm.getD i .undef) (a.tmps.getD i Go.undef)
 I_:As w G st.gh F.gv
 store: ∀ e∈st.so,Ba w G e
 deep: ∀ e∈st.so,By w G e
 y_: ∀ e∈st.so,e.pu=true->Am e.cs=true
 nodup:(st.so.map (·.id)).Nodup
 inj: ∀ i j b,G.o_ i=some b->G.o_ j=some b->i=j
 lt: ∀ i b,G.o_ i=some b->b<w.heap.size
 new: ∀ i b,G.o_ i=some b->F.w0.heap.size<=b\/F.old b
 wr: ∀ b,G.wr b↔F.av b\/ ∃ i,G.o_ i=some b
 aaJ: ∀ b,F.av b->b<F.w0.heap.size
 inv: ∀ w',F.w0.heap.size<=w'.heap.size->(∀ b,b<F.w0.heap.size-> ¬F.old b->w'.heap[b]? =F.w0.heap[b]?)->F.I w'
 aae: ∀ b,F.old b-> ¬F.av b
 os:w.os=F.w0.os
 tape:w.tape=F.w0.tape
 output:w.output=F.w0.output
 v_:F.w0.heap.size<=w.heap.size
 ext: ∀ b,b<F.w0.heap.size-> ¬F.old b->w.heap[b]? =F.w0.heap[b]?
def St.get (st:St) (t:Nat):V:=st.tm.getD t .undef
def St.put (st:St) (d:Option Nat) (v:V):St:=
 match d with
 | some d=>{st with tm:=st.tm.set d v}
 | none=>st
def CY:Value->Option C
 | .int k n=>some (.int k n)
 | .bool b=>some (.bool b)
 | .string s=>some (.str s.data.toList)
 | .pointer none=>some .ab_
 | .nilIface =>some .aag
 | .slice none 0 0=>some (.sl 0 [])
 | .map none=>some .any
 | _=>none
def Ee:List Value->Option (List C)
 | []=>some []
 | v::vs=>match CY v,Ee vs with
   | some c,some cs=>some (c::cs)
   | _,_=>none
def MK:Value->V
 | .agg cs=>match Ee cs.toList with
   | some l=> .agg l
   | none=> .undef
 | v=>match CY v with
   | some c=> .c c
   | none=> .undef
def St.ev (st:St):Operand->V
 | .tmp t=>st.get t
 | .const v=>MK v
 | .func f=> .c (.fn f)
 | .global _=> .undef
def St.arg (st:St) (g:Bool) (x:Operand):Prop×V:=
 match st.ev x with
 | .g c v=>(g=true->c=true,v)
 | v=>(True,v)
theorem P4 {w:World} {G:AF}: ∀ {v:Value} {c:C},CY v=some c->Ae w G c v:=by
 intro v c h;unfold CY at h;split at h<;>first | (cases h;done) | (injection h with h;subst h;simp [Ae];try rfl)
 ·exact⟨rfl,none,0,⟨rfl,rfl⟩,by grind⟩
theorem FX {w:World} {G:AF}: ∀ {vs:List Value} {cs:List C},Ee vs=some cs->Ai w G cs vs
 | [],cs,h=>by grind [Ee,Ai]
 | v::vs,cs,h=>by
   unfold Ee at h;split at h
   ·rename_i c cs' h1 h2;injection h with h;subst h;simp only [Ai];exact⟨P4 h1,FX h2⟩
   ·cases h
theorem eh {w:World} {G:AF} (v:Value):Ab w G (MK v) v:=by
 unfold MK;split
 ·split
  ·rename_i h;simp only [Ab];exact⟨_,rfl,FX h⟩
  ·simp only [Ab]
 grind [Ab,P4]
theorem R.ev {F:Fr} {st:St} {a:Act} {w:World} {G:AF} (h:R F st a w G) (x:Operand):Ab w G (st.ev x) (a.eval x):=by
 cases x with
 | tmp t=>exact h.w_ t
 | const v=>exact eh v
 | func f=>simp [St.ev,Act.eval,Ab,Ae]
 | global g=>simp [St.ev,Ab]
theorem R.arg {F:Fr} {st:St} {a:Act} {w:World} {G:AF} (h:R F st a w G) {g:Bool} (hg:g=true) {x:Operand} (hs:(st.arg g x).1):Ab w G (st.arg g x).2 (a.eval x):=by
 have:=h.ev x;unfold St.arg at *;split at hs
 all_goals simp_all [Ab]
def KS (P:Program) (t:TypeId):Option (Bool×Nat):=
 match P.underlying t,P.info? t with
 | some d,some i=>some (d.isRow,i.size)
 | _,_=>none
def Dt (P:Program) (t:TypeId):Option (TypeId×Nat):=
 match P.underlying t with
 | some (.slice e)=>match P.info? e with
   | some i=>some (e,i.size)
   | none=>none
 | _=>none
def GK (P:Program) (t:TypeId):Option (Nat×TypeId×Nat):=
 match P.underlying t with
 | some (.array n e)=>match P.info? e with
   | some i=>some (n,e,i.size)
   | none=>none
 | _=>none
def tw (P:Program) (t:TypeId) (f:Nat):Option (Nat×Bool×Nat):=
 match P.underlying t with
 | some (.struct fs)=>match fs[f]? with
   | some x=>match KS P x.type with
     | some (ag,n)=>some (x.offset,ag,n)
     | none=>none
   | none=>none
 | _=>none
def FC (P:Program) (t:TypeId):Bool:=
 match P.underlying t with
 | some .string =>true
 | _=>false
theorem Dc {P:Program} {t:TypeId} {ag:Bool} {n:Nat} (h:KS P t=some (ag,n)): ∃ d i,P.underlying t=some d/\d.isRow=ag/\P.info? t=some i/\i.size=n:=by grind [KS]
theorem DQ {P:Program} {t e:TypeId} {n:Nat} (h:Dt P t=some (e,n)):P.underlying t=some (.slice e)/\ ∃ i,P.info? e=some i/\i.size=n:=by unfold Dt at h;grind
theorem ML {P:Program} {t e:TypeId} {k n:Nat} (h:GK P t=some (k,e,n)):P.underlying t=some (.array k e)/\ ∃ i,P.info? e=some i/\i.size=n:=by unfold GK at h;grind
structure C6 (w w':World):Prop where
 size:w.heap.size<=w'.heap.size
 block: ∀ b,b<w.heap.size->w'.heap[b]? =w.heap[b]?
theorem C6.refl (w:World):C6 w w:=⟨le_refl _,fun _ _=>rfl⟩
theorem C6.trans {a b c:World} (h:C6 a b) (k:C6 b c):C6 a c:=
 ⟨le_trans h.size k.size,fun x hx=>(k.block x (lt_of_lt_of_le hx h.size)).trans (h.block x hx)⟩
theorem C6.cell {w w':World} (h:C6 w w') {p:Addr} {v:Value} (hv:w.cell? p=some v):w'.cell? p=some v:=by have hb:p.block<w.heap.size:=World.block_lt_of_cell? w p hv;rw [World.cell?_of_block (h.block p.block hb)];exact hv
theorem C6.range {w w':World} (h:C6 w w') {b o:Nat} {vs:List Value} (hv:w.rangeAt b o vs):w'.rangeAt b o vs:=
 fun j v hj=>h.cell (hv j v hj)
def Au.isM (e:Au):Bool:=match e.row with
 | none=>eg e.cs
 | some _=>false
def St.look (st:St) (id:Ah):Option Au:=st.so.find? (fun e=>e.id==id&& !(e.isM||Ep e.id))
def St.acr (st:St) (id:Ah):Option Au:=st.so.find? (fun e=>e.id==id&& !e.isM)
theorem SJ {st:St} {id:Ah} {e:Au} (h:st.acr id=some e):e∈st.so/\e.id=id:=
 ⟨List.mem_of_find?_eq_some h,by have:=find?_some h;grind⟩
theorem tx {st:St} {id:Ah} {e:Au} (h:st.acr id=some e) (hr:e.row=none):eg e.cs=false:=by have:=find?_some h;simp_all [Au.isM]
theorem Bi {st:St} {id:Ah} {e:Au} (h:st.look id=some e):e∈st.so/\e.id=id:=
 ⟨List.mem_of_find?_eq_some h,by have:=find?_some h;grind⟩
theorem Wi {st:St} {id:Ah} {e:Au} (h:st.look id=some e) (hr:e.row=none):eg e.cs=false:=by have:=find?_some h;simp_all [Au.isM]
theorem FP {st:St} {id:Ah} {e:Au} (h:st.look id=some e):Ep id=false:=by have h1:=(Bi h).2;have:=find?_some h;grind
theorem Ba.row {w:World} {G:AF} {e:Au} (h:Ba w G e) (hnm:e.row=none->eg e.cs=false) {b:Nat} (hb:G.o_ e.id=some b):
 ∃ cur T,w.heap[b]? =some (.cells cur T (0,0))/\e.cs.length<=cur.size/\Al w G e.cs b 0:=by
 unfold Ba at h;split at h
 ·rename_i hrn;obtain⟨b',h1,hbx⟩:=h;obtain⟨T,cur,h2,h3,h4⟩:=hbx.cells (hnm hrn);grind
 ·obtain⟨hl,v,h1,h2 | ⟨b',cap,cur,e1,e2,e3,e4,e5,e6,e7⟩⟩:=h
  all_goals simp_all [Nat.mul_le_mul_right]
def toV (ag:Bool) (off n:Nat) (cs:List C):V:=if ag then .agg ((cs.drop off).take n)else .c (cs.getD off .any)
def DW (P:Program) (t:TypeId) (st:St):V->Prop×V
 | .c (.ptr id off)=>match KS P t,st.acr id with
   | some (ag,n),some e=>(off+n<=e.cs.length/\(ag=true\/0<n),toV ag off n e.cs)
   | _,_=>(False, .undef)
 | .c (.aby cs off)=>match KS P t with
   | some (ag,n)=>(off+n<=cs.length/\(ag=true\/0<n),toV ag off n cs)
   | _=>(False, .undef)
 | _=>(False, .undef)
theorem D6 {P:Program} {w:World} {b o:Nat} {ty:TypeId} {v:Value} {d:TypeDesc} (hu:P.underlying ty=some d) (hd:d.isRow=false) (hc:w.cell? ⟨b,o,none⟩=some v):
 (Instr.loadAt ty (.pointer (some ⟨b,o,none⟩))).run P w= .ok v w:=by
 have ayl:(isAgg ty).run P w= .ok false w:=by unfold isAgg;rw [Sem.run_bind,run_underlying hu w];cases d<;>simp_all
 simp_all [Instr.loadAt,Instr.sureAddr,loadVar]
theorem WF {P:Program} {w:World} {G:AF} {cs:List C} {b o off n:Nat} {ty:TypeId} {ag:Bool} (hr:Al w G cs b o) (ht:KS P ty=some (ag,n)) (hn:off+n<=cs.length) (h0:ag=true\/0<n):
 ∃ v,Ab w G (toV ag off n cs) v/\ ∀ w',C6 w w'->(Instr.loadAt ty (.pointer (some ⟨b,o+off,none⟩))).run P w'= .ok v w':=by
 obtain⟨d,i,hu,hd,hi,hsz⟩:=Dc ht;obtain⟨vs,h1,h2⟩:=hr.list;unfold toV;cases hag:ag with
 | true=>
   refine⟨.agg ((vs.drop off).take n).toArray,?_,fun w' hw'=>?_⟩
   ·exact⟨_,rfl,by simpa using (h1.drop off).take n⟩
   ·refine run_loadAt_mid w' b (o+off) ty ((vs.drop off).take n) d ?_ hu (by rw [hd,hag]) ?_
    ·intro j v hv;rw [List.getElem?_take]at hv;split at hv
     ·rw [List.getElem?_drop]at hv;have:=(hw'.range h2) _ v hv;grind
     ·cases hv
    ·simp [hi,hsz, <-h1.length];omega
 | false=>
   have M5:0<n:=by grind
   have hlt:off<cs.length:=by omega
   obtain⟨v,hv,hr'⟩:=h1.get off cs[off] (by simp [hlt]);refine⟨v,?_,fun w' hw'=>?_⟩
   ·grind [Ab]
   ·exact D6 hu (by rw [hd,hag]) (by simpa using (hw'.range h2) off v hv)
theorem N0 {P:Program} {F:Fr} {st:St} {a:Act} {w:World} {G:AF} (h:R F st a w G) {t:TypeId} {x:V} {u:Value} (hx:Ab w G x u) (hs:(DW P t st x).1):
 ∃ v,Ab w G (DW P t st x).2 v/\ ∀ w',C6 w w'->(Instr.loadAt t u).run P w'= .ok v w':=by
 unfold DW at *;split at hs
 ·rename_i id off;split at hs
  ·rename_i ag n e ht he;simp only [Ab,Ae]at hx;obtain⟨b,hb,rfl⟩:=hx;obtain⟨hm,hid⟩:=SJ he;obtain⟨cur,T,_,_,A_⟩:=(h.store e hm).row (tx he) (by rw [hid];exact hb);grind [WF]
  grind
 ·rename_i cs off;split at hs
  ·rename_i ag n ht;simp only [Ab,Ae]at hx;obtain⟨_,b,o,rfl,_,_,A_⟩:=hx;grind [WF]
  grind
 grind
end Go.PL
namespace Go.PL
open Go Go.RowKit
def WG (P:Program) (t:TypeId):Bool:=
 match P.underlying t with
 | some .bool =>true
 | _=>false
def JS (k:IntKind) (a b:Int):Int:=k.wrap (BitVec.ofInt k.bits a&&& BitVec.ofInt k.bits b).toNat
def bOr (k:IntKind) (a b:Int):Int:=k.wrap (BitVec.ofInt k.bits a||| BitVec.ofInt k.bits b).toNat
def Q3 (k:IntKind) (a b:Int):Int:=k.wrap (BitVec.ofInt k.bits a ^^^ BitVec.ofInt k.bits b).toNat
def ek (k:IntKind) (a b:Int):Int:=k.wrap (BitVec.ofInt k.bits a&&& ~~~ BitVec.ofInt k.bits b).toNat
def KV (op:BinOp) (k:IntKind) (a b:Int):Prop×C:=
 match op with
 | .add =>(True, .int k (k.wrap (a+b)))
 | .sub =>(True, .int k (k.wrap (a - b)))
 | .mul =>(True, .int k (k.wrap (a*b)))
 | .quo =>(b ≠ 0, .int k (k.wrap (a.tdiv b)))
 | .rem =>(b ≠ 0, .int k (a.tmod b))
 | .and =>(True, .int k (JS k a b))
 | .or =>(True, .int k (bOr k a b))
 | .xor =>(True, .int k (Q3 k a b))
 | .andNot =>(True, .int k (ek k a b))
 | .shl =>(0<=b, .int k (k.wrap (a*2 ^ (min b.toNat k.bits))))
 | .shr =>(0<=b, .int k (a.fdiv (2 ^ (min b.toNat k.bits))))
 | .eql =>(True, .bool (a==b))
 | .neq =>(True, .bool (a != b))
 | .lss =>(True, .bool (decide (a<b)))
 | .leq =>(True, .bool (decide (a<=b)))
 | .gtr =>(True, .bool (decide (b<a)))
 | .geq =>(True, .bool (decide (b<=a)))
def LX (op:BinOp) (a b:List UInt8):Prop×C:=
 match op with
 | .add =>(a.length+b.length<=maxLen, .str (a++b))
 | .eql =>(True, .bool (a==b))
 | .neq =>(True, .bool (a != b))
 | .lss =>(True, .bool (Op.bytesLess a b))
 | .leq =>(True, .bool (Op.bytesLess a b||a==b))
 | .gtr =>(True, .bool (!(Op.bytesLess a b||a==b)))
 | .geq =>(True, .bool (!Op.bytesLess a b))
 | _=>(False, .any)
def LY (op:BinOp) (k k':IntKind):Prop:=
 match op with
 | .shl | .shr =>True
 | _=>k=k'
def KW (P:Program) (t:TypeId):Bool:=
 match P.underlying t with
 | some (.interface _)=>true
 | _=>false
def LZ (P:Program) (t:TypeId):Bool:=
 match P.underlying t with
 | some (.pointer _)=>true
 | _=>false
def N1 (op:BinOp) (b:Bool) (s:Prop):Prop×V:=
 match op with
 | .eql =>(s, .c (.bool b))
 | .neq =>(s, .c (.bool !b))
 | _=>(False, .undef)
def BN:Operand->Bool
 | .const _=>true
 | _=>false
def VI (P:Program) (op:BinOp) (t:TypeId) (k:Bool):V->V->Prop×V
 | .c (.int k a), .c (.int k' b)=>(LY op k k'/\(KV op k a b).1, .c (KV op k a b).2)
 | .c (.str a), .c (.str b)=>((LX op a b).1, .c (LX op a b).2)
 | .c (.bool a), .c (.bool b)=>match op with
   | .eql =>(WG P t=true, .c (.bool (a==b)))
   | .neq =>(WG P t=true, .c (.bool (a != b)))
   | _=>(False, .undef)
 | .c .aag, .c .aag =>N1 op true (k=true/\KW P t=true)
 | .c .held, .c .aag =>N1 op false (KW P t=true)
 | .c (.ptr _ _), .c .ab_ =>N1 op false (LZ P t=true)
 | .c (.aby _ _), .c .ab_ =>N1 op false (LZ P t=true)
 | .c .ab_, .c .ab_ =>N1 op true (LZ P t=true)
 | _,_=>(False, .undef)
theorem Q4 {P:Program} {t:TypeId} (h:KW P t=true): ∃ ms,P.underlying t=some (.interface ms):=by grind [KW]
theorem P5 {P:Program} {t:TypeId} (h:LZ P t=true): ∃ e,P.underlying t=some (.pointer e):=by grind [LZ]
theorem UA {P:Program} {t:TypeId} (h:WG P t=true):P.underlying t=some .bool :=by grind [WG]
theorem JT {P:Program} {t:TypeId} (h:FC P t=true):P.underlying t=some .string :=by grind [FC]
theorem mg (a:List UInt8):(⟨a.toArray⟩:ByteArray).size =a.length:=by simp [ByteArray.size]
def Jh:C->Value
 | .int k n=> .int k n
 | .bool b=> .bool b
 | .str s=> .string ⟨s.toArray⟩
 | .ab_ => .pointer none
 | .aag => .nilIface
 | .fn f=> .func (.func f) #[] #[]
 | _=>Go.undef
def C.flat:C->Bool
 | .int .. | .bool _ | .str _ | .ab_ | .aag | .fn _=>true
 | _=>false
theorem AY {w:World} {G:AF} {c:C} (hc:c.flat=true) {v:Value}:Ae w G c v↔v=Jh c:=by cases c<;>simp_all [C.flat,Ae,Jh]
theorem bL {P:Program} {op:BinOp} {t:TypeId} {k k':IntKind} {x y:Int} {ox oy:Operand} (h1:LY op k k') (h2:(KV op k x y).1) (w:World):
 (do eqGuard op t ox oy (.int k x) (.int k' y);binOp op t (.int k x) (.int k' y)).run P w= .ok (Jh (KV op k x y).2) w/\(KV op k x y).2.flat =true:=by
 refine⟨?_,by cases op<;>rfl⟩;cases op<;>simp only [LY,KV]at h1 h2<;>(try subst h1)<;>simp only [KV,Jh]<;>
  first
   | (simp [eqGuard,binOp,Op.intArith,Op.intDiv,Op.intBits,Op.intCmp,h2,JS,bOr,Q3,ek];done)
   | (have h3: ¬y<0:=by omega
      simp [eqGuard,binOp,Op.shift,h3])
theorem bM {P:Program} {op:BinOp} {t:TypeId} {x y:List UInt8} {ox oy:Operand} (h2:(LX op x y).1) (w:World):
 (do eqGuard op t ox oy (.string ⟨x.toArray⟩) (.string ⟨y.toArray⟩);binOp op t (.string ⟨x.toArray⟩) (.string ⟨y.toArray⟩)).run P w= .ok (Jh (LX op x y).2) w/\(LX op x y).2.flat =true:=by
 cases op<;>simp only [LX]at h2<;>refine⟨?_,rfl⟩<;>simp only [LX,Jh]
 case add=>
  have h3: ¬((x.length+y.length:Nat):Int)>IntKind.i64.max:=by
   have:IntKind.i64.max=9223372036854775807:=by decide
   grind [maxLen]
  simp only [eqGuard,binOp,Op.stringOp,mg];rw [if_neg h3];have e:(⟨x.toArray⟩++⟨y.toArray⟩:ByteArray)=⟨(x++y).toArray⟩:=by apply ByteArray.ext;simp
  simp [e]
 all_goals simp_all [eqGuard,binOp,Op.stringOp,bne]
theorem In {P:Program} {op:BinOp} {t:TypeId} {u v:Value} {b:Bool} {s:Prop} {w:World} {G:AF} {ox oy:Operand} (hs:(N1 op b s).1) (aqH:(∀ k a,u ≠ .int k a)/\(∀ k a,u ≠ .float k a)/\(∀ k a c,u ≠ .complex k a c)/\(∀ a,u ≠ .string a))
 (hg:s-> ∀ w',(eqGuard op t ox oy u v).run P w'= .ok () w') (he:s-> ∀ w',(Op.equal t u v).run P w'= .ok b w'):
 ∃ r,Ab w G (N1 op b s).2 r/\ ∀ w',(do eqGuard op t ox oy u v;binOp op t u v).run P w'= .ok r w':=by
 unfold N1 at *;obtain⟨h1,h2,h3,h4⟩:=aqH;split at hs
 ·refine⟨.bool b,(AY rfl).2 rfl,fun w'=>?_⟩;simp_all [binOp]
 ·refine⟨.bool !b,(AY rfl).2 rfl,fun w'=>?_⟩;simp_all [binOp]
 grind
theorem qP {P:Program} (d:Nat) {t u:TypeId} {x:Value} {ms:Array (String×TypeId)} (h:P.underlying t=some (.interface ms)) (w:World):(Op.equalIn (d+1) t (.iface u x) .nilIface).run P w= .ok false w:=by simp [Op.equalIn,run_underlying h]
theorem xw {P:Program} (d:Nat) {t:TypeId} {ms:Array (String×TypeId)} (h:P.underlying t=some (.interface ms)) (w:World):(Op.equalIn (d+1) t .nilIface .nilIface).run P w= .ok true w:=by simp [Op.equalIn,run_underlying h]
theorem xy {P:Program} (d:Nat) {t e:TypeId} {a:Addr} (h:P.underlying t=some (.pointer e)) (w:World):(Op.equalIn (d+1) t (.pointer (some a)) (.pointer none)).run P w= .ok false w:=by simp [Op.equalIn,run_underlying h]
theorem xz {P:Program} (d:Nat) {t e:TypeId} (h:P.underlying t=some (.pointer e)) (w:World):(Op.equalIn (d+1) t (.pointer none) (.pointer none)).run P w= .ok true w:=by simp [Op.equalIn,run_underlying h]
theorem WH {P:Program} {t u:TypeId} {x:Value} {ms:Array (String×TypeId)} (h:P.underlying t=some (.interface ms)) (w:World):(Op.equal t (.iface u x) .nilIface).run P w= .ok false w:=qP 9999 h w
theorem em {P:Program} {t:TypeId} {ms:Array (String×TypeId)} (h:P.underlying t=some (.interface ms)) (w:World):(Op.equal t .nilIface .nilIface).run P w= .ok true w:=xw 9999 h w
theorem Q5 {P:Program} {t e:TypeId} {a:Addr} (h:P.underlying t=some (.pointer e)) (w:World):(Op.equal t (.pointer (some a)) (.pointer none)).run P w= .ok false w:=xy 9999 h w
theorem ep {P:Program} {t e:TypeId} (h:P.underlying t=some (.pointer e)) (w:World):(Op.equal t (.pointer none) (.pointer none)).run P w= .ok true w:=xz 9999 h w
theorem mh {P:Program} {op:BinOp} {t:TypeId} {x y:V} {u v:Value} {w:World} {G:AF} {ox oy:Operand} (hx:Ab w G x u) (hy:Ab w G y v) (hs:(VI P op t (BN ox||BN oy) x y).1):
 ∃ r,Ab w G (VI P op t (BN ox||BN oy) x y).2 r/\ ∀ w',(do eqGuard op t ox oy u v;binOp op t u v).run P w'= .ok r w':=by
 unfold VI at *;split at hs
 ·simp only [Ab,Ae]at hx hy;subst hx hy;exact⟨_,by simp only [Ab];exact(AY (bL (P:=P) (t:=t) (ox:=ox) (oy:=oy) hs.1 hs.2 w).2).2 rfl,fun w'=>(bL hs.1 hs.2 w').1⟩
 ·simp only [Ab,Ae]at hx hy;subst hx hy;exact⟨_,by simp only [Ab];exact(AY (bM (P:=P) (t:=t) (ox:=ox) (oy:=oy) hs w).2).2 rfl,fun w'=>(bM hs w').1⟩
 ·simp only [Ab,Ae]at hx hy;subst hx hy;split at hs
  ·exact⟨_,(AY rfl).2 rfl,(by grind [eqGuard,run_eql_bool,UA,Jh])⟩
  ·exact⟨_,(AY rfl).2 rfl,(by grind [eqGuard,run_neq_bool,UA,Jh])⟩
  grind
 ·simp only [Ab,Ae]at hx hy;subst hx hy;refine In hs (by simp) (fun q w'=>?_) (fun q w'=>?_)
  ·have hk:=q.1;cases ox<;>cases oy<;>simp_all [BN,eqGuard]<;>(try (split<;>rfl))
  grind [Q4,em]
 ·simp only [Ab,Ae]at hx hy;obtain⟨t',x',rfl⟩:=hx;subst hy;refine In hs (by simp) (fun q w'=>?_) (fun q w'=>?_)
  ·simp_all [eqGuard]
  grind [Q4,WH]
 ·simp only [Ab,Ae]at hx hy;obtain⟨b,_,rfl⟩:=hx;subst hy;refine In hs (by simp) (fun q w'=>?_) (fun q w'=>?_)
  ·simp_all [eqGuard]
  grind [P5,Q5]
 ·simp only [Ab,Ae]at hx hy;obtain⟨_,b,o,rfl,_⟩:=hx;subst hy;refine In hs (by simp) (fun q w'=>?_) (fun q w'=>?_)
  ·simp_all [eqGuard]
  grind [P5,Q5]
 ·simp only [Ab,Ae]at hx hy;subst hx hy;refine In hs (by simp) (fun q w'=>?_) (fun q w'=>?_)
  ·simp_all [eqGuard]
  grind [P5,ep]
 grind
end Go.PL
namespace Go.PL
open Go Go.RowKit
abbrev no:Prop×V:=(False, .undef)
def xq (op:UnOp):V->Prop×V
 | .c (.int k n)=>match op with
   | .neg =>(True, .c (.int k (k.wrap (0 - n))))
   | .xor =>(True, .c (.int k (Q3 k (if k.signed then -1 else k.max) n)))
   | _=>no
 | .c (.bool b)=>match op with
   | .not =>(True, .c (.bool !b))
   | _=>no
 | _=>no
theorem bO {P:Program} {op:UnOp} {x:V} {u:Value} {w:World} {G:AF} (hx:Ab w G x u) (hs:(xq op x).1):
 ∃ r,Ab w G (xq op x).2 r/\ ∀ w',(Op.unary op u).run P w'= .ok r w':=by
 unfold xq at *;split at hs
 ·simp only [Ab,Ae]at hx;subst hx;split at hs
  ·exact⟨_,(AY rfl).2 rfl,(by simp_all [Op.unary,Op.intArith,Jh])⟩
  ·exact⟨_,(AY rfl).2 rfl,(by simp_all [Op.unary,Op.intBits,Jh,Q3])⟩
  grind
 ·simp only [Ab,Ae]at hx;subst hx;split at hs
  ·exact⟨_,(AY rfl).2 rfl,fun w'=>by simp [Op.unary,Jh]⟩
  grind
 grind
def iw (P:Program) (t:TypeId):Option IntKind:=
 match P.underlying t with
 | some (.int k)=>some k
 | _=>none
theorem mi {P:Program} {t:TypeId} {k:IntKind} (h:iw P t=some k):P.underlying t=some (.int k):=by grind [iw]
def xA (P:Program) (t:TypeId):Bool:=(P.underlying t).isSome
def bytesOf:List C->Option (List UInt8)
 | []=>some []
 | .int .u8 n::cs=>match bytesOf cs with
   | some bs=>if 0<=n/\n<256 then some (UInt8.ofNat n.toNat::bs)else none
   | none=>none
 | _=>none
def P6:List C->List UInt8
 | []=>[]
 | .int _ n::cs=>UInt8.ofNat n.toNat::P6 cs
 | _::cs=>P6 cs
def Q6:List C->Prop
 | []=>True
 | .int .u8 n::cs=>(0<=n/\n<256)/\Q6 cs
 | _=>False
theorem WI: ∀ {cs:List C},Q6 cs->bytesOf cs=some (P6 cs)
 | [],_=>rfl
 | c::cs,h=>by
   unfold Q6 at h;split at h
   ·cases ‹_=([]:List C)›
   ·rename_i n cs' he;injection he with h1 h2;subst h1 h2;simp [bytesOf,WI h.2,h.1,P6]
   ·exact h.elim
def N2 (P:Program) (t:TypeId):Bool:=
 match P.underlying t with
 | some (.slice e)=>match P.underlying e with
   | some (.int .u8)=>true
   | _=>false
 | _=>false
def KX (P:Program) (src dst:TypeId) (st:St):V->Prop×V
 | .c (.int _ n)=>match iw P dst with
   | some k=>(xA P src=true, .c (.int k (k.wrap n)))
   | none=>no
 | .c (.str s)=>(FC P src=true/\FC P dst=true, .c (.str s))
 | .c (.j_ id)=>match st.look id with
   | some e=>match e.row with
     | some (_,n,_)=>((N2 P src=true/\FC P dst=true)/\n=1/\Q6 e.cs, .c (.str (P6 e.cs)))
     | _=>no
   | none=>no
 | _=>no
theorem SK {P:Program} {t:TypeId} (h:N2 P t=true): ∃ e,P.underlying t=some (.slice e)/\P.underlying e=some (.int .u8):=by grind [N2]
theorem Q7 {w:World} {G:AF}: ∀ {cs:List C} {bs:List UInt8} {vs:List Value},bytesOf cs=some bs->Ai w G cs vs->vs=bs.map (fun b=>Value.int .u8 b.toNat)
 | [],bs,vs,h,hr=>by simp [bytesOf]at h;subst h;cases vs<;>simp_all [Ai]
 | c::cs,bs,vs,h,hr=>by
   cases vs with
   | nil=>simp [Ai]at hr
   | cons v vs=>
     simp only [Ai]at hr;unfold bytesOf at h;split at h
     ·grind
     ·rename_i n cs' he;injection he with h1 h2;subst h1 h2;split at h
      ·rename_i bs' hb;split at h
       ·rename_i hn;injection h with h;subst h;have:=Q7 hb hr.2;simp only [Ae]at hr;rw [hr.1,this];simp only [map_cons,List.cons.injEq,and_true,Value.int.injEq,true_and];have:(UInt8.ofNat n.toNat).toNat =n.toNat:=by simp;omega
        grind
       ·cases h
      ·cases h
     ·cases h
theorem iy {P:Program} {F:Fr} {st:St} {a:Act} {w:World} {G:AF} (h:R F st a w G) {src dst:TypeId} {x:V} {u:Value} (hx:Ab w G x u) (hs:(KX P src dst st x).1):
 ∃ r,Ab w G (KX P src dst st x).2 r/\ ∀ w',C6 w w'->(convert src dst u).run P w'= .ok r w':=by
 unfold KX at *;split at hs
 ·simp only [Ab,Ae]at hx;subst hx;split at hs
  ·rename_i k hk;unfold xA at hs;cases hu:P.underlying src with
   | none=>grind
   | some d=>exact⟨_,(AY rfl).2 rfl,(by simp_all [convert,run_underlying,mi,Conv.intToInt,Jh])⟩
  grind
 ·simp only [Ab,Ae]at hx;subst hx;exact⟨_,(AY rfl).2 rfl,(by simp_all [convert,run_underlying,JT,Jh])⟩
 ·rename_i id;split at hs
  ·rename_i e he;split at hs
   ·rename_i E n len A_;obtain⟨hs,rfl,hbs⟩:=hs;have hb:=WI hbs;generalize P6 e.cs=bs at *;obtain⟨t,hs1,hs2⟩:=SK hs.1;have hd:=JT hs.2;obtain⟨hm,hid⟩:=Bi he;have hE:=h.store e hm;unfold Ba at hE;rw [A_]at hE;obtain⟨hl,v,aah,alr⟩:=hE;simp only [Ab,Ae]at hx;rw [hid]at aah;rw [aah]at hx;obtain⟨hx,_⟩:=hx;injection hx with hx;subst hx;refine⟨.string ⟨bs.toArray⟩,(AY rfl).2 rfl,fun w' hw'=>?_⟩;rcases alr with ⟨p,rfl,h0,_⟩ | ⟨b,cap,cur,rfl,_,_,_,_,_,hr⟩
    ·have:e.cs=[]:=by grind
     rw [this]at hb;simp [bytesOf]at hb;subst hb;cases p with
     | none=>exact run_convert_bytes_nil w' src t hs1 hs2 0 0 dst hd
     | some p=>exact run_convert_bytes_back w' src dst t p 0 [] hs1 hs2 hd (fun j hj=>by simp at hj)
    ·obtain⟨vs,h1,h2⟩:=hr.list;have hv:=Q7 hb h1;have hlen:bs.length=len:=by have:=h1.length;grind
     rw [<-hlen];refine run_convert_bytes_back w' src dst t ⟨b,0,none⟩ cap bs hs1 hs2 hd ?_;intro j hj;rw [Addr.add_mid];simpa using hw'.range h2 j (.int .u8 bs[j].toNat) (by grind)
   grind
  grind
 grind
theorem iz {P:Program} {t:TypeId} {f o n:Nat} {ag:Bool} (h:tw P t f=some (o,ag,n)):
 ∃ fs x,P.underlying t=some (.struct fs)/\fs[f]? =some x/\x.offset=o/\KS P x.type=some (ag,n):=by
 unfold tw at h;grind
def B6 (P:Program) (s:TypeId) (f:Nat):V->Prop×V
 | .c (.ptr id off)=>match tw P s f with
   | some (o,_,n)=>(0<n, .c (.ptr id (off+o)))
   | none=>no
 | .c (.aby cs off)=>match tw P s f with
   | some (o,_,n)=>(0<n, .c (.aby cs (off+o)))
   | none=>no
 | _=>no
theorem afl {P:Program} {s:TypeId} {f o n:Nat} {ag:Bool} (h:tw P s f=some (o,ag,n)) (hn:0<n) (b off:Nat) (w:World):
 (Instr.fieldAt s (.pointer (some ⟨b,off,none⟩)) f).run P w= .ok (.pointer (some ⟨b,off+o,none⟩)) w:=by
 obtain⟨fs,x,h1,h2,h3,h4⟩:=iz h;obtain⟨d,i,hu,_,hi,hsz⟩:=Dc h4;simp only [Instr.fieldAt,Sem.run_bind,run_underlying h1,Result.andThen_ok,h2,Instr.sureAddr,Sem.run_pure,fieldPlace,sizeOf,typeInfo];have: ¬i.size=0:=by omega
 simp_all [Addr.add_mid]
theorem L2 {P:Program} {s:TypeId} {f:Nat} {x:V} {u:Value} {w:World} {G:AF} (hx:Ab w G x u) (hs:(B6 P s f x).1):
 ∃ r,Ab w G (B6 P s f x).2 r/\ ∀ w',(Instr.fieldAt s u f).run P w'= .ok r w':=by
 unfold B6 at *;split at hs
 ·split at hs
  ·rename_i o ag n hf;simp only [Ab,Ae]at hx ⊢;obtain⟨b,hb,rfl⟩:=hx;exact⟨_,⟨b,hb,rfl⟩,fun w'=>afl hf hs b _ w'⟩
  grind
 ·split at hs
  ·rename_i o ag n hf;simp only [Ab,Ae]at hx ⊢;obtain⟨hp,b,o',rfl,h1,h2,h3⟩:=hx;exact⟨_,⟨hp,b,o',rfl,h1,h2,h3⟩,fun w'=>by rw [afl hf hs b _ w',Nat.add_assoc]⟩
  grind
 grind
theorem acA {P:Program} {t:TypeId} {ag:Bool} {n:Nat} (ht:KS P t=some (ag,n)) {w:World} {G:AF} {cs:List C} {arr:Array Value} (h:Ai w G cs arr.toList) {off:Nat} (hb:off+n<=cs.length) (h0:ag=true\/0<n):
 ∃ r,Ab w G (toV ag off n cs) r/\ ∀ w',(part t arr off).run P w'= .ok r w':=by
 obtain⟨d,i,hu,hd,hi,hsz⟩:=Dc ht;have ayl: ∀ w',(isAgg t).run P w'= .ok ag w':=by intro w';unfold isAgg;rw [Sem.run_bind,run_underlying hu w'];cases d<;>simp_all
 have hlen:=h.length;unfold toV;cases hag:ag with
 | true=>
   refine⟨.agg (arr.extract off (off+n)),⟨_,rfl,?_⟩,fun w'=>?_⟩
   ·have:=(h.drop off).take n;simp_all
   simp_all [part,sizeOf,typeInfo]
 | false=>
   have M5:0<n:=by grind
   have hlt:off<cs.length:=by omega
   obtain⟨v,hv,hr⟩:=h.get off cs[off] (by simp [hlt]);refine⟨v,by grind [Ab],fun w'=>?_⟩;simp_all [part]
def JU (P:Program) (t:TypeId) (f:Nat):V->Prop×V
 | .agg cs=>match tw P t f with
   | some (o,ag,n)=>(o+n<=cs.length/\(ag=true\/0<n),toV ag o n cs)
   | none=>no
 | _=>no
theorem eu {P:Program} {t:TypeId} {f:Nat} {x:V} {u:Value} {w:World} {G:AF} (hx:Ab w G x u) (hs:(JU P t f x).1):
 ∃ r,Ab w G (JU P t f x).2 r/\ ∀ w',(Instr.field t u f).run P w'= .ok r w':=by
 unfold JU at *;split at hs
 ·split at hs
  ·rename_i o ag n hf;simp only [Ab]at hx;obtain⟨arr,rfl,hr⟩:=hx;obtain⟨fs,y,h1,h2,h3,h4⟩:=iz hf;simp_all [acA,Instr.field,run_underlying,asAgg]
  grind
 grind
def Cp (P:Program) (t:TypeId) (st:St) (x y:V):Prop×V:=
 match y with
 | .c (.int _ i)=>match x with
   | .c (.sl len cs)=>match Dt P t with
     | some (_,n)=>(0<=i/\i<len, .c (.aby cs (i.toNat*n)))
     | none=>no
   | .c (.j_ id)=>match Dt P t,st.acr id with
     | some (_,n),some e=>match e.row with
       | some (_,_,len)=>(0<=i/\i<len, .c (.ptr id (i.toNat*n)))
       | none=>no
     | _,_=>no
   | .c (.bsl id off len)=>match Dt P t with
     | some (_,n)=>(0<=i/\i<len, .c (.ptr id (off+i.toNat*n)))
     | none=>no
   | .c (.ptr id off)=>match GK P t with
     | some (k,_,n)=>(0<=i/\i<k, .c (.ptr id (off+i.toNat*n)))
     | none=>no
   | .c (.aby cs off)=>match GK P t with
     | some (k,_,n)=>(0<=i/\i<k, .c (.aby cs (off+i.toNat*n)))
     | none=>no
   | _=>no
 | _=>no
theorem Er {P:Program} {t e:TypeId} {n:Nat} (h:Dt P t=some (e,n)) (b o len cap:Nat) (k:IntKind) (i:Int) (h0:0<=i) (h1:i<len) (w:World):
 (Instr.indexAt t (.slice (some ⟨b,o,none⟩) len cap) (.int k i)).run P w= .ok (.pointer (some ⟨b,o+i.toNat*n,none⟩)) w:=by
 obtain⟨hu,inf,hi,hsz⟩:=DQ h;simp [Instr.indexAt,asIntOf,Sem.run_bind,run_underlying hu,h0,h1,sizeOf,typeInfo,program,Sem.run,hi,hsz,Addr.add_mid]
theorem JV {P:Program} {t e:TypeId} {m n:Nat} (h:GK P t=some (m,e,n)) (b o:Nat) (k:IntKind) (i:Int) (h0:0<=i) (h1:i<m) (w:World):
 (Instr.indexAt t (.pointer (some ⟨b,o,none⟩)) (.int k i)).run P w= .ok (.pointer (some ⟨b,o+i.toNat*n,none⟩)) w:=by
 obtain⟨hu,inf,hi,hsz⟩:=ML h;simp [Instr.indexAt,asIntOf,Sem.run_bind,run_underlying hu,h0,h1,sizeOf,typeInfo,program,Sem.run,hi,hsz,Addr.add_mid,Instr.sureAddr]
theorem L3 {P:Program} {F:Fr} {st:St} {a:Act} {w:World} {G:AF} (h:R F st a w G) {t:TypeId} {x y:V} {u v:Value} (hx:Ab w G x u) (hy:Ab w G y v) (hs:(Cp P t st x y).1):
 ∃ r,Ab w G (Cp P t st x y).2 r/\ ∀ w',(Instr.indexAt t u v).run P w'= .ok r w':=by
 unfold Cp at *;split at hs
 ·rename_i k i;simp only [Ab,Ae]at hy;subst hy;split at hs
  ·split at hs
   ·rename_i len cs e n hse;simp only [Ab,Ae]at hx ⊢;obtain⟨hp,ad,cap,rfl,_,_,_,h0 | ⟨b,o,rfl,h1,h2,h3⟩⟩:=hx
    ·omega
    ·exact⟨_,⟨hp,b,o,rfl,h1,h2,h3⟩,(by grind [Er])⟩
   grind
  ·rename_i id;split at hs
   ·rename_i e n en hse hlk;split at hs
    ·rename_i E n' len A_;obtain⟨hm,hid⟩:=SJ hlk;have hE:=h.store en hm;unfold Ba at hE;rw [A_]at hE;obtain⟨hl,v,aah,alr⟩:=hE;simp only [Ab,Ae]at hx ⊢;rw [hid]at aah;rw [aah]at hx;obtain⟨hx,_⟩:=hx;injection hx with hx;subst hx;rcases alr with ⟨_,h0,_⟩ | ⟨b,cap,cur,rfl,hb,_⟩
     ·omega
     ·refine⟨_,⟨b,by rw [<-hid];exact hb,rfl⟩,fun w'=>?_⟩;simpa using Er hse b 0 len cap k i hs.1 hs.2 w'
    grind
   grind
  ·rename_i id off len;split at hs
   ·rename_i e n hse;simp only [Ab,Ae]at hx ⊢;obtain⟨b,cap,o,hb,rfl,hc,_,ho⟩:=hx;have ho:o=off:=(by grind);subst ho;exact⟨_,⟨b,hb,rfl⟩,(by grind [Er])⟩
   grind
  ·split at hs
   ·rename_i m e n hae;simp only [Ab,Ae]at hx ⊢;obtain⟨b,hb,rfl⟩:=hx;exact⟨_,⟨b,hb,rfl⟩,(by grind [JV])⟩
   grind
  ·split at hs
   ·rename_i m e n hae;simp only [Ab,Ae]at hx ⊢;obtain⟨hp,b,o,rfl,h1,h2,h3⟩:=hx;exact⟨_,⟨hp,b,o,rfl,h1,h2,h3⟩,(by grind [JV])⟩
   grind
  grind
 grind
def IW (P:Program) (t:TypeId) (x y:V):Prop×V:=
 match y with
 | .c (.int _ i)=>match x with
   | .c (.str s)=>(FC P t=true/\0<=i/\i<s.length, .c (.int .u8 (s.getD i.toNat 0).toNat))
   | .agg cs=>match GK P t with
     | some (k,e,n)=>match KS P e with
       | some (ag,_)=>(0<=i/\i<k/\i.toNat*n+n<=cs.length/\0<n,toV ag (i.toNat*n) n cs)
       | none=>no
     | none=>no
   | _=>no
 | _=>no
theorem ew {P:Program} {t:TypeId} {x y:V} {u v:Value} {w:World} {G:AF} (hx:Ab w G x u) (hy:Ab w G y v) (hs:(IW P t x y).1):
 ∃ r,Ab w G (IW P t x y).2 r/\ ∀ w',(Instr.index t u v).run P w'= .ok r w':=by
 unfold IW at *;split at hs
 ·rename_i k i;simp only [Ab,Ae]at hy;subst hy;split at hs
  ·simp only [Ab,Ae]at hx;subst hx;obtain⟨h1,h2,h3⟩:=hs;rename_i s;refine⟨_,(AY rfl).2 rfl,fun w'=>?_⟩;have hlt:i.toNat<s.length:=by omega
   have hg:(⟨s.toArray⟩:ByteArray)[i.toNat]? =some s[i.toNat]:=by rw [getElem?_pos _ _ (by simpa [ByteArray.size] using hlt)];rfl
   simp_all [Instr.index,asIntOf,run_underlying,JT,Jh]
  ·split at hs
   ·rename_i m e n hae;split at hs
    ·rename_i ag n' hts;obtain⟨hu,inf,hi,hsz⟩:=ML hae;obtain⟨d,aEv,hu',hd,hi',aEM⟩:=Dc hts;rw [hi]at hi';injection hi' with hi';subst hi';have hnn:n'=n:=by omega
     subst hnn;simp only [Ab]at hx;obtain⟨arr,rfl,hr⟩:=hx;obtain⟨r,q1,q2⟩:=acA hts hr hs.2.2.1 (.inr hs.2.2.2);simp_all [Instr.index,asIntOf,run_underlying,sizeOf,typeInfo]
    grind
   grind
  grind
 grind
end Go.PL
namespace Go.PL
open Go Go.RowKit
def Z5 (len:Nat) (lo hi:Option V):Option (Int×Int):=
 match lo,hi with
 | none,none=>some (0,len)
 | some (.c (.int _ l)),none=>some (l,len)
 | none,some (.c (.int _ h))=>some (0,h)
 | some (.c (.int _ l)),some (.c (.int _ h))=>some (l,h)
 | _,_=>none
def Hq (P:Program) (t:TypeId) (x:V) (lo hi:Option V):Prop×V:=
 match x with
 | .c (.str s)=>match Z5 s.length lo hi with
   | some (l,h)=>(FC P t=true/\0<=l/\l<=h/\h<=s.length, .c (.str ((s.drop l.toNat).take (h.toNat - l.toNat))))
   | none=>no
 | .c (.sl len cs)=>match Dt P t,Z5 len lo hi with
   | some (_,n),some (l,h)=>(0<=l/\l<=h/\h<=len/\cs.length=len*n, .c (.sl (h.toNat - l.toNat) ((cs.drop (l.toNat*n)).take ((h.toNat - l.toNat)*n))))
   | _,_=>no
 | .c (.ptr id off)=>match GK P t,Z5 (match GK P t with
  | some (k,_,_)=>k
  | none=>0) lo hi with
  | some (k,_,n),some (l,h)=>(0<=l/\l<k/\l<=h/\h<=k, .c (.bsl id (off+l.toNat*n) (h.toNat - l.toNat)))
  | _,_=>no
 | _=>no
def JW (w:World) (G:AF):Option V->Option Value->Prop
 | none,none=>True
 | some x,some v=>Ab w G x v
 | _,_=>False
theorem Tc {P:Program} (w:World) (k:IntKind) (i:Int) (y:Nat) (code:BoundsCode) (h0:0<=i) (h1:i<=y):
 (Instr.sliceBound (.int k i) y code).run P w= .ok i.toNat w:=by
 simp_all [Instr.sliceBound,asIntOf]
theorem WJ {P:Program} {w:World} {G:AF} {len cap:Nat} {lo hi:Option V} {lv hv:Option Value} {l h:Int} (sl:Bool) (hb:Z5 len lo hi=some (l,h)) (h1:JW w G lo lv) (h2:JW w G hi hv)
 (q1:0<=l) (q2:l<=h) (q3:h<=len) (q4:len<=cap): ∀ w',(Instr.sliceBounds sl len cap lv hv none).run P w'= .ok (l.toNat,h.toNat,cap) w':=by
 intro w';unfold Z5 at hb;split at hb
 ·simp only [injEq,Prod.mk.injEq]at hb;obtain⟨rfl,rfl⟩:=hb;cases lv<;>cases hv<;>simp only [JW]at h1 h2;simp [Instr.sliceBounds]
 ·rename_i k1 l1;simp only [injEq,Prod.mk.injEq]at hb;obtain⟨rfl,rfl⟩:=hb;cases lv<;>cases hv<;>simp only [JW,Ab,Ae]at h1 h2;simp_all [Tc,Instr.sliceBounds]
 ·rename_i k2 l2;simp only [injEq,Prod.mk.injEq]at hb;obtain⟨rfl,rfl⟩:=hb;cases lv<;>cases hv<;>simp only [JW,Ab,Ae]at h1 h2;subst h2;have e2:=fun code=>Tc (P:=P) w' k2 l2 cap code (by omega) (by omega);simp [Instr.sliceBounds,e2]
 ·rename_i k1 l1 k2 l2;simp only [injEq,Prod.mk.injEq]at hb;obtain⟨rfl,rfl⟩:=hb;cases lv<;>cases hv<;>simp only [JW,Ab,Ae]at h1 h2;subst h1 h2;have e1:=fun code=>Tc (P:=P) w' k1 l1 l2.toNat code q1 (by omega);have e2:=fun code=>Tc (P:=P) w' k2 l2 cap code (by omega) (by omega);simp_all [Instr.sliceBounds]
 ·cases hb
theorem ey {P:Program} {t:TypeId} {x:V} {lo hi:Option V} {u:Value} {lv hv:Option Value} {w:World} {G:AF} (hx:Ab w G x u) (h1:JW w G lo lv) (h2:JW w G hi hv) (hs:(Hq P t x lo hi).1):
 ∃ r,Ab w G (Hq P t x lo hi).2 r/\ ∀ w',(Instr.sliceAt t u lv hv none).run P w'= .ok r w':=by
 unfold Hq at *;split at hs
 ·rename_i s;split at hs
  ·rename_i l h hb;simp only [Ab,Ae]at hx;subst hx;obtain⟨q0,q1,q2,q3⟩:=hs;refine⟨_,(AY rfl).2 rfl,fun w'=>?_⟩;have e:(⟨s.toArray⟩:ByteArray).extract l.toNat h.toNat=⟨((s.drop l.toNat).take (h.toNat - l.toNat)).toArray⟩:=by apply ByteArray.ext;simp_all
   have:=WJ (P:=P) (w:=w) (G:=G) false (len:=s.length) (cap:=s.length) hb h1 h2 q1 q2 q3 (le_refl _) w';simp_all [Instr.sliceAt,Instr.slice,run_underlying,JT,mg,Jh]
  grind
 ·rename_i len cs;split at hs
  ·rename_i e n l h hse hb;obtain⟨q1,q2,q3,q4⟩:=hs;obtain⟨hu,inf,hi',hsz⟩:=DQ hse;simp only [Ab,Ae]at hx ⊢;obtain⟨hp,ad,cap,rfl,c1,c2,c3,c4⟩:=hx;have hr:=fun w'=>WJ (P:=P) (w:=w) (G:=G) true (len:=len) (cap:=cap) hb h1 h2 q1 q2 q3 c1 w';refine⟨.slice (if cap=l.toNat then ad else ad.map (·.add (l.toNat*n))) (h.toNat - l.toNat) (cap - l.toNat),⟨MI _ (MJ _ hp),_,_,rfl,by omega,by omega,?_,?_⟩,fun w'=>?_⟩
   ·simp_all
   ·by_cases hz:h.toNat - l.toNat=0
    ·grind
    ·right;rcases c4 with c4 | ⟨b,o,rfl,k1,k2,k3⟩
     ·omega
     ·have Tg: ¬cap=l.toNat:=by omega
      refine⟨b,o+l.toNat*n,?_,k1,k2,?_⟩
      ·simp_all [Addr.add_mid]
      ·exact(k3.drop (l.toNat*n)).take _
   simp_all [Instr.sliceAt,Instr.slice,run_underlying,sizeOf,typeInfo]
  grind
 ·rename_i id off;split at hs
  ·rename_i k e n l h hae hb;obtain⟨q1,q2,q3,q4⟩:=hs;obtain⟨hu,inf,hi',hsz⟩:=ML hae;simp only [hae]at hb;simp only [Ab,Ae]at hx ⊢;obtain⟨b,hb1,rfl⟩:=hx;have hr:=fun sl w'=>WJ (P:=P) (w:=w) (G:=G) sl (len:=k) (cap:=k) hb h1 h2 q1 q3 q4 (le_refl _) w';have Tg: ¬k=l.toNat:=by omega
   refine⟨.slice (some (if k=l.toNat then⟨b,off,none⟩else(⟨b,off,none⟩:Addr).add (l.toNat*n))) (h.toNat - l.toNat) (k - l.toNat),⟨b,k - l.toNat,off+l.toNat*n,hb1,?_,by omega,le_refl _, .inr rfl⟩,fun w'=>?_⟩
   ·simp_all [Addr.add_mid]
   simp_all [Instr.sliceAt,Instr.sureAddr,run_underlying,sizeOf,typeInfo]
  grind
 grind
def Fa (P:Program) (t:TypeId):Bool:=
 match P.underlying t with
 | some (.slice _)=>true
 | _=>false
def P7 (P:Program) (t:TypeId) (st:St) (x:V):Prop×V:=
 match x with
 | .c (.str s)=>(FC P t=true, .c (.int .i64 s.length))
 | .c (.sl len _)=>(Fa P t=true, .c (.int .i64 len))
 | .c (.j_ id)=>match st.acr id with
   | some e=>match e.row with
     | some (_,_,len)=>(Fa P t=true, .c (.int .i64 len))
     | none=>no
   | none=>no
 | .c (.bsl _ _ len)=>(Fa P t=true, .c (.int .i64 len))
 | .c (.rsl _ _ _ len)=>(Fa P t=true, .c (.int .i64 len))
 | _=>match GK P t with
   | some (k,_,_)=>(True, .c (.int .i64 k))
   | none=>no
theorem Fb {P:Program} {t:TypeId} (h:Fa P t=true): ∃ e,P.underlying t=some (.slice e):=by grind [Fa]
theorem qQ {F:Fr} {st:St} {a:Act} {w:World} {G:AF} (h:R F st a w G) {id:Ah} {e:Au} (he:st.acr id=some e) {E n len:Nat} (A_:e.row=some (E,n,len)) {u:Value} (hx:Ae w G (.j_ id) u):
 ∃ ad cap,u= .slice ad len cap:=by
 obtain⟨hm,hid⟩:=SJ he;have hE:=h.store e hm;unfold Ba at hE;rw [A_]at hE;obtain⟨hl,v,aah,alr⟩:=hE;simp only [Ae]at hx;grind
theorem mj {P:Program} {F:Fr} {st:St} {a:Act} {w:World} {G:AF} (h:R F st a w G) {t ty:TypeId} {x:V} {u:Value} (hx:Ab w G x u) (hs:(P7 P t st x).1):
 ∃ r,Ab w G (P7 P t st x).2 r/\ ∀ w',(Builtin.len_ #[t] ty #[u]).run P w'= .ok r w':=by
 unfold P7 at *;split at hs
 ·simp only [Ab,Ae]at hx;subst hx;exact⟨_,(AY rfl).2 rfl,(by simp_all [Builtin.len_,run_underlying,JT,goInt,mg,Jh])⟩
 ·obtain⟨e,he⟩:=Fb hs;simp only [Ab,Ae]at hx;obtain⟨_,ad,cap,rfl,_⟩:=hx;exact⟨_,(AY rfl).2 rfl,(by simp_all [Builtin.len_,run_underlying,goInt,Jh])⟩
 ·split at hs
  ·rename_i e hlk;split at hs
   ·rename_i E n len A_;obtain⟨el,he⟩:=Fb hs;obtain⟨ad,cap,rfl⟩:=qQ h hlk A_ (by simpa [Ab] using hx);exact⟨_,(AY rfl).2 rfl,(by simp_all [Builtin.len_,run_underlying,goInt,Jh])⟩
   grind
  grind
 ·obtain⟨e,he⟩:=Fb hs;simp only [Ab,Ae]at hx;obtain⟨b,cap,o,hb,rfl,hc,_⟩:=hx;exact⟨_,(AY rfl).2 rfl,(by simp_all [Builtin.len_,run_underlying,goInt,Jh])⟩
 ·obtain⟨e,he⟩:=Fb hs;simp only [Ab,Ae]at hx;obtain⟨_,_,_,_,_,_,rfl,_⟩:=hx;exact⟨_,(AY rfl).2 rfl,(by simp_all [Builtin.len_,run_underlying,goInt,Jh])⟩
 ·split at hs
  ·rename_i k el n hae;obtain⟨hu,_⟩:=ML hae;exact⟨_,(AY rfl).2 rfl,(by simp_all [Builtin.len_,run_underlying,goInt,Jh])⟩
  grind
def LC:List V->Option (IntKind×Int×List Int)
 | [.c (.int k x)]=>some (k,x,[])
 | .c (.int k x)::vs=>match LC vs with
   | some (_,y,ys)=>some (k,x,y::ys)
   | none=>none
 | _=>none
def ml (vs:List V):Prop×V:=
 match LC vs with
 | some (k,x,ys)=>(True, .c (.int k (ys.foldl (fun a y=>if y<a then y else a) x)))
 | none=>no
def mn (vs:List V):Prop×V:=
 match LC vs with
 | some (k,x,ys)=>(True, .c (.int k (ys.foldl (fun a y=>if a<y then y else a) x)))
 | none=>no
theorem P8 {w:World} {G:AF}: ∀ {vs:List V} {us:List Value} {k:IntKind} {x:Int} {ys:List Int},LC vs=some (k,x,ys)->As w G vs us->
 ∃ ks:List IntKind,us= .int k x::(ks.zip ys).map (fun p=>Value.int p.1 p.2)/\ks.length=ys.length
 | [],us,k,x,ys,h,_=>by simp [LC]at h
 | [v],us,k,x,ys,h,hr=>by
   unfold LC at h;split at h
   ·rename_i k' x' he;injection he with he _;subst he;simp only [injEq,Prod.mk.injEq]at h;obtain⟨rfl,rfl,rfl⟩:=h;simp only [As,Ab,Ae]at hr;simp_all
   all_goals grind
 | v::v2::vs,us,k,x,ys,h,hr=>by
   unfold LC at h;split at h
   ·grind
   ·rename_i k' x' vs' Tg he;injection he with he1 he2;subst he1 he2;split at h
    ·rename_i k2 y ys' q;simp only [injEq,Prod.mk.injEq]at h;obtain⟨rfl,rfl,rfl⟩:=h;rw [As]at hr;obtain⟨u,r,rfl,h1,h2⟩:=hr;simp only [Ab,Ae]at h1;subst h1;obtain⟨ks,e,hl⟩:=P8 q h2;exact⟨k2::ks,by rw [e];simp,by simp [hl]⟩
    ·cases h
   ·cases h
theorem Q8 {P:Program} (w:World) (k:IntKind): ∀ (ks:List IntKind) (ys:List Int) (x:Int),ks.length=ys.length->
 (((ks.zip ys).map (fun p=>Value.int p.1 p.2)).foldlM Builtin.min2 (.int k x)).run P w= .ok (.int k (ys.foldl (fun a y=>if y<a then y else a) x)) w
 | [],[],x,_=>by simp
 | [],_::_,_,h=>by simp at h
 | _::_,[],_,h=>by simp at h
 | k'::ks,y::ys,x,h=>by simp only [List.zip_cons_cons,map_cons,List.foldlM_cons,foldl_cons,Sem.run_bind,Builtin.min2,Sem.run_pure,Result.andThen_ok];exact Q8 w k ks ys _ (by simpa using h)
theorem Q9 {P:Program} (w:World) (k:IntKind): ∀ (ks:List IntKind) (ys:List Int) (x:Int),ks.length=ys.length->
 (((ks.zip ys).map (fun p=>Value.int p.1 p.2)).foldlM Builtin.max2 (.int k x)).run P w= .ok (.int k (ys.foldl (fun a y=>if a<y then y else a) x)) w
 | [],[],x,_=>by simp
 | [],_::_,_,h=>by simp at h
 | _::_,[],_,h=>by simp at h
 | k'::ks,y::ys,x,h=>by simp only [List.zip_cons_cons,map_cons,List.foldlM_cons,foldl_cons,Sem.run_bind,Builtin.max2,Sem.run_pure,Result.andThen_ok];exact Q9 w k ks ys _ (by simpa using h)
theorem mo {P:Program} {vs:List V} {us:Array Value} {w:World} {G:AF} {ts:Array TypeId} {ty:TypeId} (hx:As w G vs us.toList) (hs:(ml vs).1):
 ∃ r,Ab w G (ml vs).2 r/\ ∀ w',(Builtin.min_ ts ty us).run P w'= .ok r w':=by
 unfold ml at *;split at hs
 ·rename_i k x ys h;obtain⟨ks,e,hl⟩:=P8 h hx;exact⟨_,(AY rfl).2 rfl,fun w'=>by simp only [Builtin.min_,e];exact Q8 w' k ks ys x hl⟩
 grind
theorem mq {P:Program} {vs:List V} {us:Array Value} {w:World} {G:AF} {ts:Array TypeId} {ty:TypeId} (hx:As w G vs us.toList) (hs:(mn vs).1):
 ∃ r,Ab w G (mn vs).2 r/\ ∀ w',(Builtin.max_ ts ty us).run P w'= .ok r w':=by
 unfold mn at *;split at hs
 ·rename_i k x ys h;obtain⟨ks,e,hl⟩:=P8 h hx;exact⟨_,(AY rfl).2 rfl,fun w'=>by simp only [Builtin.max_,e];exact Q9 w' k ks ys x hl⟩
 grind
end Go.PL
namespace Go.PL
open Go Go.RowKit
def Q_ (p:Prop×V) (f:V->Prop×V):Prop×V:=(p.1/\(f p.2).1,(f p.2).2)
def St.args (st:St) (g:Bool):List Operand->Prop×List V
 | []=>(True,[])
 | x::xs=>((st.arg g x).1/\(st.args g xs).1,(st.arg g x).2::(st.args g xs).2)
def P9:V->Option (Bool×Bool)
 | .c (.bool q)=>some (true,q)
 | .g c (.c (.bool q))=>some (c,q)
 | _=>none
def WK (p:Bool) (a b:V):Prop×V:=
 match P9 a,P9 b with
 | some (ca,q),some (cb,r)=>((p=true->ca=true)/\(p=false->cb=true), .c (.bool (if p then q else r)))
 | _,_=>no
def Z6:V->Prop×V
 | .c (.ptr id off)=>(True, .c (.ptr id off))
 | .c (.aby cs off)=>(True, .c (.aby cs off))
 | .c (.fn f)=>(True, .c (.fn f))
 | .c (.clo f cs)=>(True, .c (.clo f cs))
 | .c (.bmv f cs)=>(True, .c (.bmv f cs))
 | _=>no
def mr (i:Nat):V->Prop×V
 | .tup vs=>(i<vs.length,vs.getD i .undef)
 | _=>no
def C9 (st:St) (g:Bool):Option Operand->Prop×Option V
 | none=>(True,none)
 | some x=>((st.arg g x).1,some (st.arg g x).2)
def Qa (P:Program) (st:St) (g:Bool) (b:Builtin) (xs:List Operand) (ts:List TypeId):Prop×V:=
 match b,xs,ts with
 | .len,[x],[t]=>Q_ (st.arg g x) (P7 P t st)
 | .min,xs,_=>((st.args g xs).1/\(ml (st.args g xs).2).1,(ml (st.args g xs).2).2)
 | .max,xs,_=>((st.args g xs).1/\(mn (st.args g xs).2).1,(mn (st.args g xs).2).2)
 | _,_,_=>no
def rd (P:Program) (st:St) (g:Bool):Op->Prop×V
 | .move x=>st.arg g x
 | .assign x=>st.arg g x
 | .pick c a b=>Q_ (st.arg g c) fun p=>match p with
   | .c (.bool q)=>WK q (st.ev a) (st.ev b)
   | _=>no
 | .load t x=>Q_ (st.arg g x) (DW P t st)
 | .nilCheck x=>Q_ (st.arg g x) Z6
 | .binOp op t x y _=>Q_ (st.arg g x) fun u=>Q_ (st.arg g y) fun v=>VI P op t (BN x||BN y) u v
 | .unOp op _ x=>Q_ (st.arg g x) (xq op)
 | .convert src dst x=>Q_ (st.arg g x) (KX P src dst st)
 | .slice t x lo hi none=>Q_ (st.arg g x) fun u=>((C9 st g lo).1/\(C9 st g hi).1/\(Hq P t u (C9 st g lo).2 (C9 st g hi).2).1,(Hq P t u (C9 st g lo).2 (C9 st g hi).2).2)
 | .fieldAddr s x f=>Q_ (st.arg g x) (B6 P s f)
 | .field t x f=>Q_ (st.arg g x) (JU P t f)
 | .indexAddr t x i=>Q_ (st.arg g x) fun u=>Q_ (st.arg g i) fun v=>Cp P t st u v
 | .index t x i=>Q_ (st.arg g x) fun u=>Q_ (st.arg g i) fun v=>IW P t u v
 | .extract x i=>Q_ (st.arg g x) (mr i)
 | .call c=>match c.callee with
   | .builtin b=>Qa P st g b c.args.toList c.argTypes.toList
   | _=>no
 | _=>no
theorem WL {w:World} {G:AF} {x:V} {v:Value} {c q:Bool} (h:P9 x=some (c,q)) (hr:Ab w G x v) (hc:c=true):v= .bool q:=by
 unfold P9 at h;split at h
 ·simp only [injEq,Prod.mk.injEq]at h;obtain⟨rfl,rfl⟩:=h;grind [Ab,Ae]
 ·simp only [injEq,Prod.mk.injEq]at h;obtain⟨rfl,rfl⟩:=h;simp_all [Ab,Ae]
 ·cases h
theorem R.args {F:Fr} {st:St} {a:Act} {w:World} {G:AF} (h:R F st a w G) {g:Bool} (hg:g=true): ∀ {xs:List Operand},(st.args g xs).1->As w G (st.args g xs).2 (xs.map a.eval)
 | [],_=>by simp [St.args,As]
 | x::xs,hs=>by simp only [St.args]at hs ⊢;simp only [As,map_cons];exact⟨_,_,rfl,h.arg hg hs.1,h.args hg hs.2⟩
theorem JA {w:World} {G:AF}: ∀ {xs:List V} {vs:List Value},As w G xs vs-> ∀ i,i<xs.length-> ∃ v,vs[i]? =some v/\Ab w G (xs.getD i .undef) v
 | [],vs,h,i,hi=>by simp at hi
 | x::xs,vs,h,i,hi=>by
   simp only [As]at h;obtain⟨v,r,rfl,h1,h2⟩:=h;cases i with
   | zero=>exact⟨v,by simp,by simpa using h1⟩
   | succ i=>
     obtain⟨v',q1,q2⟩:=JA h2 i (by simpa using hi);exact⟨v',by simpa using q1,by simpa using q2⟩
theorem WM {F:Fr} {st:St} {a:Act} {w:World} {G:AF} (h:R F st a w G) {g:Bool} (hg:g=true) {x:Option Operand} (hs:(C9 st g x).1):JW w G (C9 st g x).2 (x.map a.eval):=by
 cases x with
 | none=>simp [C9,JW]
 | some x=>simp only [C9,Option.map,JW]at hs ⊢;exact h.arg hg hs
theorem iA {P:Program} {F:Fr} {st:St} {a:Act} {w:World} {G:AF} (h:R F st a w G) {g:Bool} (hg:g=true) {o:Oper} (hs:(rd P st g o.op).1):
 ∃ v,Ab w G (rd P st g o.op).2 v/\ ∀ w',C6 w w'->(execOp a.eval o).run P w'= .ok (.value v) w':=by
 cases ho:o.op<;>simp only [rd,ho,Q_]at hs ⊢ <;>try (exact hs.elim)
 case move x=>exact⟨_,h.arg hg hs,fun w' _=>by simp [execOp,ho]⟩
 case assign x=>exact⟨_,h.arg hg hs,fun w' _=>by simp [execOp,ho]⟩
 case pick c x y=>
  obtain⟨h1,h2⟩:=hs;have hc:=h.arg hg h1;split at h2
  ·rename_i q hq;rw [hq]at hc;simp only [Ab,Ae]at hc;unfold WK at h2 ⊢;split at h2
   ·rename_i ca qa cb qb e1 e2;cases q with
    | true=>
      have:=WL e1 (h.ev x) (h2.1 rfl);simp_all [Ab,Ae,execOp,asBool]
    | false=>
      have:=WL e2 (h.ev y) (h2.2 rfl);simp_all [Ab,Ae,execOp,asBool]
   grind
  grind
 case load t x=>
  obtain⟨v,q1,q2⟩:=N0 (P:=P) h (h.arg hg hs.1) hs.2;exact⟨v,q1,(by simp_all [execOp])⟩
 case nilCheck x=>
  obtain⟨h1,h2⟩:=hs;have hx:=h.arg hg h1;unfold Z6 at h2 ⊢;split at h2
  ·rename_i id off e;rw [e]at hx;simp only [Ab,Ae]at hx ⊢;obtain⟨b,hb,hv⟩:=hx;exact⟨_,⟨b,hb,rfl⟩,(by simp_all [execOp])⟩
  ·rename_i cs off e;rw [e]at hx;simp only [Ab,Ae]at hx ⊢;obtain⟨hp,b,o',hv,k1⟩:=hx;exact⟨_,⟨hp,b,o',rfl,k1⟩,(by simp_all [execOp])⟩
  ·rename_i f e;rw [e]at hx;simp only [Ab,Ae]at hx ⊢;exact⟨_,rfl,(by simp_all [execOp])⟩
  ·rename_i f cs e;rw [e]at hx;simp only [Ab,Ae]at hx ⊢;obtain⟨arr,hv,hr⟩:=hx;exact⟨_,⟨arr,rfl,hr⟩,(by simp_all [execOp])⟩
  ·rename_i f cs e;rw [e]at hx;simp only [Ab,Ae]at hx ⊢;obtain⟨arr,hv,hr⟩:=hx;exact⟨_,⟨arr,rfl,hr⟩,(by simp_all [execOp])⟩
  grind
 case binOp op t x y t'=>
  obtain⟨v,q1,q2⟩:=mh (P:=P) (ox:=x) (oy:=y) (h.arg hg hs.1) (h.arg hg hs.2.1) hs.2.2;refine⟨v,q1,fun w' hw'=>?_⟩;have:=q2 w';simp only [execOp,ho,Sem.run_bind]at this ⊢;simp_all
 case unOp op t x=>
  obtain⟨v,q1,q2⟩:=bO (P:=P) (h.arg hg hs.1) hs.2;exact⟨v,q1,(by simp_all [execOp])⟩
 case convert src dst x=>
  obtain⟨v,q1,q2⟩:=iy (P:=P) h (h.arg hg hs.1) hs.2;exact⟨v,q1,(by simp_all [execOp])⟩
 case slice t x lo hi mx=>
  cases mx with
  | some _=>grind
  | none=>
    simp only [Q_]at hs ⊢;obtain⟨v,q1,q2⟩:=ey (P:=P) (h.arg hg hs.1) (WM h hg hs.2.1) (WM h hg hs.2.2.1) hs.2.2.2;exact⟨v,q1,(by simp_all [execOp])⟩
 case fieldAddr s x f=>
  obtain⟨v,q1,q2⟩:=L2 (P:=P) (h.arg hg hs.1) hs.2;exact⟨v,q1,(by simp_all [execOp])⟩
 case field s x f=>
  obtain⟨v,q1,q2⟩:=eu (P:=P) (h.arg hg hs.1) hs.2;exact⟨v,q1,(by simp_all [execOp])⟩
 case indexAddr t x i=>
  obtain⟨v,q1,q2⟩:=L3 (P:=P) h (h.arg hg hs.1) (h.arg hg hs.2.1) hs.2.2;exact⟨v,q1,(by simp_all [execOp])⟩
 case index t x i=>
  obtain⟨v,q1,q2⟩:=ew (P:=P) (h.arg hg hs.1) (h.arg hg hs.2.1) hs.2.2;exact⟨v,q1,(by simp_all [execOp])⟩
 case extract x i=>
  obtain⟨h1,h2⟩:=hs;have hx:=h.arg hg h1;unfold mr at h2 ⊢;split at h2
  ·rename_i vs e;rw [e]at hx;simp only [Ab]at hx;obtain⟨arr,hv,hr⟩:=hx;obtain⟨v,q1,q2⟩:=JA hr i h2;have q1':arr[i]? =some v:=by grind
   exact⟨v,q2,(by simp_all [execOp,Instr.extract])⟩
  grind
 case call c=>
  split at hs
  ·rename_i b adK;unfold Qa at hs ⊢;split at hs
   ·rename_i x t hxs hts;have ea:c.args= #[x]:=by grind
    have et:c.argTypes= #[t]:=by grind
    obtain⟨v,q1,q2⟩:=mj (P:=P) (ty:=o.type) h (h.arg hg hs.1) hs.2;refine⟨v,q1,fun w' _=>?_⟩;simp_all [execOp,resolve,invoke,builtin]
   ·rename_i xs ts hxs;obtain⟨v,q1,q2⟩:=mo (P:=P) (ts:=c.argTypes) (ty:=o.type) (us:=c.args.map a.eval) (by simpa using h.args hg hs.1) hs.2;exact⟨v,q1,(by simp_all [execOp,resolve,invoke,builtin])⟩
   ·obtain⟨v,q1,q2⟩:=mq (P:=P) (ts:=c.argTypes) (ty:=o.type) (us:=c.args.map a.eval) (by simpa using h.args hg hs.1) hs.2;exact⟨v,q1,(by simp_all [execOp,resolve,invoke,builtin])⟩
   grind
  grind
end Go.PL
namespace Go.PL
open Go Go.RowKit
def Io (id:Ah) (c:C):C:=if c.p_ id then .any else c
def Es (id:Ah) (v:V):V:=if v.p_ id then .undef else v
def Au.kill (id:Ah) (e:Au):Au:=match e with
 | ⟨i,r,cs,true⟩=>⟨i,r,cs,true⟩
 | ⟨i,r,cs,false⟩=>⟨i,r,cs.map (Io id),false⟩
theorem Au.P_ (id:Ah) (e:Au):(e.kill id).id =e.id:=by obtain⟨i,r,cs,_ | _⟩:=e<;>rfl
theorem Au.adf (id:Ah) (e:Au):(e.kill id).row =e.row:=by obtain⟨i,r,cs,_ | _⟩:=e<;>rfl
def St.kill (st:St) (id:Ah):St:={tm:=st.tm.map (Es id),so:=(st.so.filter (fun e=>e.id != id&& !(CM id&&Ep e.id))).map (Au.kill id),gh:=st.gh.map (Es id),pre:=st.pre}
def Ra (e:Au) (l:List Au):List Au:=match CM e.id||Ep e.id with
 | true=>l
 | false=>e::l
def St.new (st:St) (e:Au):St:={tm:=(st.kill e.id).tm,so:=Ra (e.kill e.id) (st.kill e.id).so,gh:=(st.kill e.id).gh,pre:=st.pre}
theorem JB {e x:Au} {l:List Au} (h:x∈Ra e l):x=e/\CM e.id=false/\Ep e.id=false\/x∈l:=by grind [Ra]
def Ci (F:Fr) (G:AF) (id:Ah) (b:Option Nat) (v:Option Value):AF where
 o_:=fun i=>if i=id then b else G.o_ i
 own:=fun i=>if i=id then v else G.own i
 wr:=fun x=>F.av x\/ ∃ i,(if i=id then b else G.o_ i)=some x
theorem qS (id:Ah) (c:C):(Io id c).p_ id=false:=by grind [Io,C.p_]
theorem SM (id:Ah) (v:V):(Es id v).p_ id=false:=by grind [Es,V.p_]
theorem SN (id:Ah): ∀ cs:List C,BU id (cs.map (Io id))=false
 | []=>by simp [BU]
 | c::cs=>by simp [BU,qS,SN id cs]
theorem qT {w:World} {G:AF} {id:Ah} {c:C} {v:Value} (h:Ae w G c v):Ae w G (Io id c) v:=by
 unfold Io;split
 ·simp only [Ae];exact h.one
 ·exact h
theorem SO {w:World} {G:AF} {id:Ah}: ∀ {cs:List C} {vs:List Value},Ai w G cs vs->Ai w G (cs.map (Io id)) vs
 | [],[],_=>by simp [Ai]
 | [],_::_,h=>by grind
 | _::_,[],h=>by simp [Ai]at h
 | c::cs,v::vs,h=>by simp only [Ai]at h;simp only [map_cons,Ai];exact⟨qT h.1,SO h.2⟩
theorem UB {w:World} {G:AF} {id:Ah} {cs:List C} {b o:Nat} (h:Al w G cs b o):Al w G (cs.map (Io id)) b o:=by obtain⟨vs,h1,h2⟩:=h.list;exact Al.aau (SO h1) h2
theorem SP {w:World} {G:AF} {id:Ah} {x:V} {v:Value} (h:Ab w G x v):Ab w G (Es id x) v:=by grind [Es,Ab]
theorem Qb {w:World} {G:AF} {id:Ah}: ∀ {xs:List V} {vs:List Value},As w G xs vs->As w G (xs.map (Es id)) vs
 | [],_,h=>by grind
 | x::xs,vs,h=>by simp only [As]at h;obtain⟨v,r,e,h1,h2⟩:=h;simp only [map_cons,As];exact⟨v,r,e,SP h1,Qb h2⟩
theorem Qc (id:Ah): ∀ xs:List V,LA id (xs.map (Es id))=false
 | []=>by simp [LA]
 | x::xs=>by simp [LA,SM,Qc id xs]
theorem bP {w:World} {G:AF} {id:Ah} {e:Au} (h:Ba w G e):Ba w G (e.kill id):=by
 obtain⟨i,r,cs,pu⟩:=e;cases pu with
 | true=>exact h
 | false=>
 unfold Ba at *;simp only [Au.kill];simp only at h;split at h
 ·obtain⟨b,h1,h2⟩:=h;refine⟨b,h1,?_⟩;rcases h2 with ⟨kv,es,rfl,h2⟩ | ⟨T,cur,h2,h3,h4⟩
  ·exact .inl ⟨kv,es,by simp [Io,C.p_],h2⟩
  ·exact .inr ⟨T,cur,h2,by simpa using h3,UB h4⟩
 ·obtain⟨hl,v,h1,h2⟩:=h;refine⟨by grind,v,h1,?_⟩;rcases h2 with h2 | ⟨b,cap,cur,e1,e2,e3,e4,e5,e6,e7⟩
  ·grind
  ·exact .inr ⟨b,cap,cur,e1,e2,e3,e4,e5,e6,UB e7⟩
theorem O2 {id:Ah} {e:Au} (h:e.pu=true->Am e.cs=true):(e.kill id).pu =true->Am (e.kill id).cs =true:=by
 obtain⟨i,r,cs,pu⟩:=e;cases pu with
 | true=>exact h
 | false=>intro hq;cases hq
theorem iB {id:Ah} {e:Au} (h:e.pu=true->Am e.cs=true):BU id (e.kill id).cs =false:=by
 obtain⟨i,r,cs,pu⟩:=e;cases pu with
 | true=>exact AQ id cs (h rfl)
 | false=>exact SN id cs
theorem CF {w w':World} {G G':AF} (hk:Cu G G' w w') {e:Au} (ha:JR (fun id=>BU id e.cs=true) G G') (hid:G'.o_ e.id=G.o_ e.id/\G'.own e.id=G.own e.id)
 (hb: ∀ b,G.o_ e.id=some b->w'.heap[b]? =w.heap[b]?) (h:Ba w G e):Ba w' G' e:=by
 unfold Ba at *;split at h
 ·obtain⟨b,h1,h2⟩:=h;refine⟨b,by grind,?_⟩;rcases h2 with ⟨kv,es,h2,h3,h4⟩ | ⟨T,cur,h2,h3,h4⟩
  ·exact .inl ⟨kv,es,h2,by rw [hb b h1];exact h3,h4⟩
  ·exact .inr ⟨T,cur,by rw [hb b h1];exact h2,h3,Al.mono hk _ _ _ ha (fun o=>W_ (hb b h1) o) h4⟩
 ·obtain⟨hl,v,h1,h2⟩:=h;refine⟨hl,v,by grind,?_⟩;rcases h2 with ⟨p,e1,e2,e3⟩ | ⟨b,cap,cur,e1,e2,e3,e4,e5,e6,e7⟩
  ·grind
  ·exact .inr ⟨b,cap,cur,e1,by grind,by grind,e4,e5,e6,(by grind [Al.mono,W_])⟩
theorem E9.mono {w w':World} {G G':AF} (hk:Cu G G' w w') {e:Au} (hid:G'.o_ e.id=G.o_ e.id/\G'.own e.id=G.own e.id) (hmk: ∀ k,G'.o_ (BR k e.id)=G.o_ (BR k e.id)/\G'.own (BR k e.id)=G.own (BR k e.id))
 (hb: ∀ b,G.o_ e.id=some b->w'.heap[b]? =w.heap[b]?) (hbm: ∀ k b,G.o_ (BR k e.id)=some b->w'.heap[b]? =w.heap[b]?) (h:E9 w G e):E9 w' G' e:=fun k E n len cs q=>by
 obtain⟨h1,h2,b,v,h3,h4,h5⟩:=h k E n len cs q;refine⟨h1,CF hk (e:=⟨BR k e.id,some (E,n,len),cs,true⟩) (fun i hi=>absurd (show BU i cs=true from hi) (by rw [AQ i cs h1];simp)) (hmk k) (hbm k) h2,b,v,by grind,?_,by grind⟩;grind [W_]
theorem By.mono {w w':World} {G G':AF} (hk:Cu G G' w w') {e:Au} (hid:G'.o_ e.id=G.o_ e.id/\G'.own e.id=G.own e.id) (hmk:Ep e.id=true-> ∀ k,G'.o_ (BR k e.id)=G.o_ (BR k e.id)/\G'.own (BR k e.id)=G.own (BR k e.id))
 (hb: ∀ b,G.o_ e.id=some b->w'.heap[b]? =w.heap[b]?) (hbm:Ep e.id=true-> ∀ k b,G.o_ (BR k e.id)=some b->w'.heap[b]? =w.heap[b]?) (h:By w G e):By w' G' e:=
 ⟨h.1,fun hd=>⟨(h.2 hd).1,(h.2 hd).2.1,(h.2 hd).2.2.mono hk hid (hmk hd) hb (hbm hd)⟩⟩
theorem By.kill {w:World} {G:AF} {e:Au} {id:Ah} (h:By w G e):By w G (e.kill id):=by
 obtain⟨i,r,cs,pu⟩:=e;cases pu with
 | true=>exact h
 | false=>exact⟨h.1,fun hd=>absurd (h.2 hd).1 (by simp)⟩
theorem By.an_ {w:World} {G:AF} {e:Au} (h1:CM e.id=false) (h2:Ep e.id=false):By w G e:=⟨h1,fun hd=>by rw [h2]at hd;cases hd⟩
theorem Gl {st:St} {f:V->V} (hf:f .undef = .undef) (i:Nat):(st.tm.map f).getD i .undef =f (st.tm.getD i .undef):=by grind
structure N3 (w w':World):Prop where
 os:w'.os=w.os
 tape:w'.tape=w.tape
 output:w'.output=w.output
theorem R.rename {F:Fr} {st:St} {a:Act} {w w':World} {G:AF} (h:R F st a w G) (id:Ah) (nb:Option Nat) (nv:Option Value)
 (ho:N3 w w') (hs:w.heap.size<=w'.heap.size)
 (am_: ∀ b,b<F.w0.heap.size-> ¬F.old b->w'.heap[b]? =w.heap[b]?)
 (hn: ∀ b,nb=some b->(w.heap.size<=b\/G.o_ id=some b)/\b<w'.heap.size) (a_:St)
 (htm:a_.tm.length=st.tm.length) (hsl: ∀ i,Ab w' (Ci F G id nb nv) (a_.tm.getD i .undef) (a.tmps.getD i Go.undef))
 (hgh:As w' (Ci F G id nb nv) a_.gh F.gv) (hpu: ∀ e∈a_.so,e.pu=true->Am e.cs=true) (hso: ∀ e∈a_.so,Ba w' (Ci F G id nb nv) e) (hdp: ∀ e∈a_.so,By w' (Ci F G id nb nv) e) (hnd:(a_.so.map (·.id)).Nodup):R F a_ a w' (Ci F G id nb nv) where
 dfr:=h.dfr
 size:=by rw [htm];exact h.size
 w_:=hsl
 I_:=hgh
 y_:=hpu
 store:=hso
 deep:=hdp
 nodup:=hnd
 inj:=by
  intro i j b hi hj;simp only [Ci]at hi hj;split at hi<;>split at hj
  ·simp_all
  ·rename_i q1 q2;rcases (hn b hi).1 with q | q
   ·exact absurd (h.lt j b hj) (by omega)
   ·exact absurd (h.inj j id b hj q) q2
  ·rename_i q1 q2;rcases (hn b hj).1 with q | q
   ·exact absurd (h.lt i b hi) (by omega)
   ·exact absurd (h.inj i id b hi q) q1
  ·exact h.inj i j b hi hj
 lt:=by
  intro i b hi;simp only [Ci]at hi;split at hi
  ·grind
  ·exact lt_of_lt_of_le (h.lt i b hi) hs
 new:=by
  intro i b hi;simp only [Ci]at hi;split at hi
  ·rcases (hn b hi).1 with q | q
   ·grind
   ·exact h.new id b q
  ·exact h.new i b hi
 wr:=fun b=>Iff.rfl
 aaJ:=h.aaJ
 inv:=h.inv
 aae:=h.aae
 os:=ho.os.trans h.os
 tape:=ho.tape.trans h.tape
 output:=ho.output.trans h.output
 v_:=le_trans h.v_ hs
 ext:=fun b hb hold=>(am_ b hb hold).trans (h.ext b hb hold)
theorem R.keeps {F:Fr} {st:St} {a:Act} {w w':World} {G:AF} (h:R F st a w G) (id:Ah) (nb:Option Nat) (nv:Option Value)
 (hs:w.heap.size<=w'.heap.size) (abm: ∀ b,b<w.heap.size->(G.o_ id ≠ some b)->w'.heap[b]? =w.heap[b]?)
 (hn: ∀ b,nb=some b->w.heap.size<=b\/(G.o_ id=some b/\Co w w' b)):Cu G (Ci F G id nb nv) w w' where
 size:=hs
 block:=fun b hb hw=>abm b hb (fun he=>hw ((h.wr b).2 (.inr ⟨id,he⟩)))
 wr:=by intro b hb hw;simp only [Ci]at hw;rw [h.wr];grind
 ty:=by
  intro i b h1 h2;have hb:=h.lt i b h1;simp only [Ci]at h2;split at h2
  ·grind
  ·rename_i Tg;exact Co.same (abm b hb (fun q=>Tg (h.inj _ _ b h1 q)))
theorem Du {F:Fr} {G:AF} {id:Ah} {nb:Option Nat} {nv:Option Value} {S:Ah->Prop} (hS: ∀ i,S i->i ≠ id):JR S G (Ci F G id nb nv):=
 fun i hi=>by simp [Ci,hS i hi]
theorem R.set {F:Fr} {st:St} {a:Act} {w w':World} {G:AF} (h:R F st a w G) (e:Au) (nb:Option Nat) (nv:Option Value)
 (ho:N3 w w') (hs:w.heap.size<=w'.heap.size) (abm: ∀ b,b<w.heap.size->(G.o_ e.id ≠ some b)->w'.heap[b]? =w.heap[b]?)
 (am_: ∀ b,b<F.w0.heap.size-> ¬F.old b->w'.heap[b]? =w.heap[b]?)
 (hn: ∀ b,nb=some b->(w.heap.size<=b\/(G.o_ e.id=some b/\Co w w' b))/\b<w'.heap.size) (hp:e.pu=true->Am e.cs=true) (he:Ba w' (Ci F G e.id nb nv) (e.kill e.id)):R F (st.new e) a w' (Ci F G e.id nb nv):=by
 have hk:=h.keeps e.id nb nv hs abm (by grind);refine h.rename e.id nb nv ho hs am_ (by grind) (st.new e) (by simp [St.new,St.kill]) ?_ ?_ ?_ ?_ ?_ ?_
 ·intro i;simp only [St.new,St.kill];rw [Gl (by simp [Es,V.p_])];exact Ab.mono hk _ _ (by grind [Du,SM]) (SP (h.w_ i))
 ·simp only [St.new,St.kill];exact As.mono hk _ _ (by grind [Du,Qc]) (Qb h.I_)
 ·intro e' he';simp only [St.new,St.kill]at he';rcases JB he' with ⟨rfl,_⟩ | he'
  ·exact O2 hp
  ·simp only [mem_map,mem_filter]at he';obtain⟨d,⟨hd,Tg⟩,rfl⟩:=he';exact O2 (h.y_ d hd)
 ·intro e' he';simp only [St.new,St.kill]at he';rcases JB he' with ⟨rfl,_⟩ | he'
  ·exact he
  ·simp only [mem_map,mem_filter,and_eq_true]at he';obtain⟨d,⟨hd,Tg,_⟩,rfl⟩:=he';have ac7:d.id ≠ e.id:=by grind
   refine CF hk (Du (fun i hi he'=>by subst he';rw [iB (h.y_ d hd)]at hi;cases hi)) (by grind [Ci,Au.P_]) ?_ (bP (h.store d hd));intro b hb;rw [Au.P_]at hb;exact abm b (h.lt _ b hb) (fun q=>ac7 (h.inj _ _ b hb q))
 ·intro e' he';simp only [St.new,St.kill]at he';rcases JB he' with ⟨rfl,h1,h2⟩ | he'
  ·exact By.an_ h1 h2
  ·simp only [mem_map,mem_filter,and_eq_true]at he';obtain⟨d,⟨hd,Tg,hmd⟩,rfl⟩:=he';have ac7:d.id ≠ e.id:=by grind
   have hmk:Ep (d.kill e.id).id =true-> ∀ k,BR k (d.kill e.id).id ≠ e.id:=by grind [Au.P_,iv]
   refine By.mono hk (by grind [Ci,Au.P_]) (by grind [Ci]) ?_ (fun hq k b hb=>abm b (h.lt _ b hb) (fun q=>hmk hq k (h.inj _ _ b hb q))) (h.deep d hd).kill;intro b hb;rw [Au.P_]at hb;exact abm b (h.lt _ b hb) (fun q=>ac7 (h.inj _ _ b hb q))
 ·have afW:List.Sublist (((st.new e).so.map (·.id))) (e.id::((st.so.filter (fun d=>d.id != e.id&& !(CM e.id&&Ep d.id))).map (·.id))):=by
   simp only [St.new,St.kill,Ra];split
   all_goals simp_all [Function.comp_def,Au.P_]
  refine List.Sublist.nodup afW (List.nodup_cons.2 ⟨by grind,?_⟩);exact List.Sublist.nodup (by grind [List.filter_sublist]) h.nodup
theorem R.put {F:Fr} {st:St} {a:Act} {w:World} {G:AF} (h:R F st a w G) {d:Option Nat} {x:V} {v:Value} (hx:Ab w G x v):R F (st.put d x) (a.put d v) w G:=by
 cases d with
 | none=>exact h
 | some d=>
   exact {
    dfr:=h.dfr
    size:=by simp [St.put,Act.put,h.size]
    w_:=by
     intro i;simp only [St.put,Act.put];by_cases hi:i=d
     ·subst hi;by_cases hl:i<st.tm.length
      ·simp [List.getD_eq_getElem?_getD,hl,h.size,hx]
      grind [Ab]
     ·have h1:(st.tm.set d x).getD i .undef =st.tm.getD i .undef :=by grind
      have h2:(a.tmps.setIfInBounds d v).getD i Go.undef=a.tmps.getD i Go.undef:=by simp_all [Ne.symm]
      rw [h1,h2];exact h.w_ i
    I_:=by simpa [St.put] using h.I_
    store:=h.store,deep:=h.deep,y_:=h.y_,nodup:=h.nodup,inj:=h.inj,lt:=h.lt,new:=h.new,wr:=h.wr,aaJ:=h.aaJ,inv:=h.inv,aae:=h.aae,os:=h.os,tape:=h.tape,output:=h.output,v_:=h.v_,ext:=h.ext}
theorem R.same {F:Fr} {st:St} {a:Act} {w w':World} {G:AF} (h:R F st a w G) (ho:N3 w w') (hs:C6 w w'):R F st a w' G:=by
 have hk:Cu G G w w':=⟨hs.size,fun b hb _=>hs.block b hb,fun b _ h=>h,fun i b h1 _=>Co.same (hs.block b (h.lt i b h1))⟩;exact {
  dfr:=h.dfr,size:=h.size
  w_:=fun i=>Ab.mono hk _ _ (fun _ _=>⟨rfl,rfl⟩) (h.w_ i)
  I_:=As.mono hk _ _ (fun _ _=>⟨rfl,rfl⟩) h.I_
  store:=fun e he=>CF hk (fun _ _=>⟨rfl,rfl⟩) ⟨rfl,rfl⟩ (fun b hb=>hs.block b (h.lt _ b hb)) (h.store e he)
  deep:=fun e he=>By.mono hk ⟨rfl,rfl⟩ (by grind) (fun b hb=>hs.block b (h.lt _ b hb)) (fun _ k b hb=>hs.block b (h.lt _ b hb)) (h.deep e he)
  y_:=h.y_
  nodup:=h.nodup,inj:=h.inj
  lt:=fun i b hb=>lt_of_lt_of_le (h.lt i b hb) hs.size
  new:=h.new,wr:=h.wr,aaJ:=h.aaJ,inv:=h.inv,aae:=h.aae
  os:=ho.os.trans h.os,tape:=ho.tape.trans h.tape,output:=ho.output.trans h.output
  v_:=le_trans h.v_ hs.size
  ext:=fun b hb hold=>(hs.block b (lt_of_lt_of_le hb h.v_)).trans (h.ext b hb hold)}
end Go.PL
namespace Go.PL
open Go Go.RowKit
theorem xB {w:World} {o:Obj} {b:Nat} (h:b<w.heap.size):(w.heap.push o)[b]? =w.heap[b]? :=by grind
theorem JX (w:World) (o:Obj):(w.alloc o).heap =w.heap.push o:=rfl
theorem KY (w:World) (o:Obj):N3 w (w.alloc o):=⟨rfl,rfl,rfl⟩
theorem JY (w:World) (o:Obj):C6 w (w.alloc o):=⟨by simp [JX],(by grind [JX])⟩
theorem H8 {F:Fr} {st:St} {a:Act} {w w':World} {G:AF} (h:R F st a w G) {id:Ah} {nb:Option Nat} {nv:Option Value} (hk:Cu G (Ci F G id nb nv) w w')
 {cs:List C} {vs:List Value} {row:Option (TypeId×Nat×Nat)} {pu:Bool} (hp:pu=true->Am cs=true) (hr:Ai w G cs vs):Ai w' (Ci F G id nb nv) (Au.kill id ⟨id,row,cs,pu⟩).cs vs:=by
 cases pu with
 | true=>exact Ai.mono hk _ _ (Du (fun i hi he'=>by subst he';have:=AQ i cs (hp rfl);grind [Au.kill])) hr
 | false=>grind [Ai.mono,Du,Au.kill,SN,SO]
theorem N4 {id:Ah} {row:Option (TypeId×Nat×Nat)} {cs:List C} {pu:Bool}:(Au.kill id ⟨id,row,cs,pu⟩).cs.length =cs.length:=by cases pu<;>simp [Au.kill]
theorem iD {w:World} {G:AF} {e:Au} (A_:e.row=none) (h: ∃ b T cur,G.o_ e.id=some b/\w.heap[b]? =some (.cells cur T (0,0))/\cur.size=e.cs.length/\Al w G e.cs b 0):Ba w G e:=by unfold Ba;rw [A_];obtain⟨b,T,cur,h1,h2⟩:=h;exact⟨b,h1, .inr ⟨T,cur,h2⟩⟩
theorem JZ {w:World} {G:AF} {e:Au} {E n len:Nat} (A_:e.row=some (E,n,len)) (h:e.cs.length=len*n/\ ∃ v,G.own e.id=some v/\
 ((∃ p,v= .slice p 0 0/\len=0/\G.o_ e.id=none)\/
  ∃ b cap cur,v= .slice (some ⟨b,0,none⟩) len cap/\G.o_ e.id=some b/\w.heap[b]? =some (.cells cur E (0,0))/\len<=cap/\cap<=maxLen/\cur.size=cap*n/\Al w G e.cs b 0)):Ba w G e:=by
 grind [Ba]
theorem PI (w:World) (cur:Array Value) (T:TypeId):(w.alloc (.cells cur T)).rangeAt w.heap.size 0 cur.toList:=by intro j v hv;simp_all
theorem R.box {F:Fr} {st:St} {a:Act} {w:World} {G:AF} (h:R F st a w G) (id:Ah) (T:TypeId) (cs:List C) (cur:Array Value) (hr:Ai w G cs cur.toList) (pu:Bool) (hp:pu=true->Am cs=true):
 R F (st.new ⟨id,none,cs,pu⟩) a (w.alloc (.cells cur T)) (Ci F G id (some w.heap.size) none):=by
 have ac0:=JY w (.cells cur T);refine h.set ⟨id,none,cs,pu⟩ (some w.heap.size) none (KY _ _) ac0.size (fun b hb _=>ac0.block b hb) (fun b hb _=>ac0.block b (lt_of_lt_of_le hb h.v_)) ?_ hp ?_
 ·simp_all
 ·refine iD (Au.adf _ _) ⟨w.heap.size,T,cur,by simp [Ci,Au.P_],by simp [JX],by rw [N4];simpa using hr.length.symm,?_⟩;exact Al.aau (H8 h (h.keeps id _ _ ac0.size (fun b hb _=>ac0.block b hb) (by grind)) hp hr) (PI w cur T)
theorem R.row {F:Fr} {st:St} {a:Act} {w:World} {G:AF} (h:R F st a w G) (id:Ah) (T n len cap:Nat) (cs:List C) (cur:Array Value) (vs:List Value) (hr:Ai w G cs vs) (hp:cur.toList.take vs.length=vs)
 (hl:cs.length=len*n) (hc:cur.size=cap*n) (hlc:len<=cap) (hm:cap<=maxLen) (pu:Bool) (hp':pu=true->Am cs=true):
 R F (st.new ⟨id,some (T,n,len),cs,pu⟩) a (w.alloc (.cells cur T)) (Ci F G id (some w.heap.size) (some (.slice (some ⟨w.heap.size,0,none⟩) len cap))):=by
 have ac0:=JY w (.cells cur T);refine h.set ⟨id,some (T,n,len),cs,pu⟩ (some w.heap.size) _ (KY _ _) ac0.size (fun b hb _=>ac0.block b hb) (fun b hb _=>ac0.block b (lt_of_lt_of_le hb h.v_)) ?_ hp' ?_
 ·simp_all
 ·refine JZ (Au.adf _ _) ⟨by rw [N4];exact hl,_,by simp_all [Ci,Au.P_], .inr ⟨w.heap.size,cap,cur,rfl,by simp [Ci,Au.P_],by simp [JX],hlc,hm,hc,?_⟩⟩;refine Al.aau (H8 h (h.keeps id _ _ ac0.size (fun b hb _=>ac0.block b hb) (by grind)) hp' hr) ?_;intro j v hv;refine PI w cur T j v ?_;grind
theorem R.alv {F:Fr} {st:St} {a:Act} {w:World} {G:AF} (h:R F st a w G) (id:Ah) (T n:Nat) (p:Option Addr):
 R F (st.new ⟨id,some (T,n,0),[],true⟩) a w (Ci F G id none (some (.slice p 0 0))):=by
 refine h.set ⟨id,some (T,n,0),[],true⟩ none _ ⟨rfl,rfl,rfl⟩ (le_refl _) (fun _ _ _=>rfl) (fun _ _ _=>rfl) (by grind) (fun _=>rfl) ?_;simp only [Ba,Au.kill];exact⟨by simp, .slice p 0 0,by simp [Ci], .inl ⟨p,rfl,trivial,by simp [Ci]⟩⟩
theorem R.akp {F:Fr} {st:St} {a:Act} {w:World} {G:AF} (h:R F st a w G) (id:Ah) (T n:Nat):
 R F (st.new ⟨id,some (T,n,0),[],true⟩) a w (Ci F G id none (some (.slice none 0 0))):=h.alv id T n none
def V.cells:V->Option (List C)
 | .c x=>some [x]
 | .agg cs=>some cs
 | _=>none
theorem J0 {w:World} {G:AF} {x:V} {v:Value} {cs:List C} (h:Ab w G x v) (hc:x.cells=some cs):Ai w G cs v.cells.toList:=by
 unfold V.cells at hc;split at hc
 ·injection hc with hc;subst hc;simp only [Ab]at h;have:=h.one;have e:v.cells= #[v]:=by cases v<;>simp_all [Value.cells,Value.oneCell']
  grind [Ai]
 ·injection hc with hc;subst hc;simp only [Ab]at h;obtain⟨arr,rfl,hr⟩:=h;grind [Value.cells]
 ·cases hc
def Nt (P:Program) (t:TypeId):Option (List C):=
 match P.info? t with
 | some i=>match i.zero with
   | some z=>Ee z.cells.toList
   | none=>none
 | none=>none
theorem Hr {P:Program} {t:TypeId} {cs:List C} (h:Nt P t=some cs): ∃ i z,P.info? t=some i/\i.zero=some z/\Ee z.cells.toList=some cs:=by grind [Nt]
theorem adU {P:Program} {t:TypeId} {i:TypeInfo} {z:Value} (hi:P.info? t=some i) (hz:i.zero=some z) (w:World):(zeroValue t).run P w= .ok z w:=by simp_all [zeroValue,typeInfo]
def Jc (place:Nat->Option (Nat×Nat)) (cells:List C):List (Nat×V)->Option (List C)
 | []=>some cells
 | (i,v)::rest=>match place i,v.cells with
   | some (off,size),some cs=>if cs.length=size/\off+size<=cells.length then Jc place (cells.take off++cs++cells.drop (off+size)) rest else none
   | _,_=>none
def NV (w:World) (G:AF):List (Nat×V)->List (Nat×Value)->Prop
 | [],[]=>True
 | (i,x)::xs,(j,v)::vs=>i=j/\Ab w G x v/\NV w G xs vs
 | _,_=>False
theorem bR (vs:List Value) (off:Nat): ∀ (k:Nat) (cs:Array Value),off+k+vs.length<=cs.size->
 ((vs.zipIdx k).foldl (fun cs (c,j)=>cs.setIfInBounds (off+j) c) cs).toList =cs.toList.take (off+k)++vs++cs.toList.drop (off+k+vs.length):=by
 induction vs with
 | nil=>simp_all
 | cons v vs ih=>
   intro k cs hk;simp only [List.zipIdx_cons,foldl_cons];simp only [List.length_cons]at hk ⊢;rw [ih (k+1) _ (by simp;omega)];have hlt:off+k<cs.toList.length:=by simp;omega
   rw [Array.toList_setIfInBounds,List.set_eq_take_append_cons_drop,if_pos hlt];have e1:(cs.toList.take (off+k)).length =off+k:=by grind
   rw [List.take_append,List.drop_append,e1];rw [show off+(k+1) - (off+k)=1 by omega,show off+(k+1)+vs.length - (off+k)=vs.length+1 by omega];rw [List.take_take,show min (off+(k+1)) (off+k)=off+k by omega];have e3:List.drop (off+(k+1)+vs.length) (List.take (off+k) cs.toList)=[]:=(by grind [List.drop_of_length_le]);grind [drop_drop]
theorem J3 {w:World} {G:AF} {place:Nat->Option (Nat×Nat)}: ∀ {ps:List (Nat×V)} {qs:List (Nat×Value)} {cells out:List C} {arr:Array Value},
 Jc place cells ps=some out->NV w G ps qs->Ai w G cells arr.toList-> ∃ aa5,Instr.fill place arr qs=some aa5/\Ai w G out aa5.toList
 | [],[],cells,out,arr,h,_,hr=>by simp only [Jc,injEq]at h;subst h;exact⟨arr,rfl,hr⟩
 | [],_::_,_,_,_,_,h,_=>by simp [NV]at h
 | _::_,[],_,_,_,_,h,_=>by simp [NV]at h
 | (i,x)::ps,(j,v)::qs,cells,out,arr,h,hp,hr=>by
   simp only [NV]at hp;obtain⟨rfl,hv,hp⟩:=hp;simp only [Jc]at h;split at h
   ·rename_i off size cs hpl hcs;split at h
    ·rename_i hb;have hvc:=J0 hv hcs;have hl:=hr.length;have hlv:=hvc.length;have e:=bR v.cells.toList off 0 arr (by simp at hl hlv ⊢;omega);simp only [Instr.fill,hpl];rw [if_neg (by simp at hl hlv ⊢;omega)];refine J3 h hp ?_;rw [<-Array.foldl_toList,Array.toList_zipIdx,e];simp only [add_zero];have:v.cells.toList.length=size:=by grind
     rw [this];exact((hr.take off).append hvc).append (hr.drop (off+size))
    ·cases h
   ·cases h
end Go.PL
namespace Go.PL
open Go Go.RowKit
theorem BE {w:World} {b:Nat} {cur:Array Value} {T:TypeId} {fr:Nat×Nat} (h:w.heap[b]? =some (.cells cur T fr)) {us rest:List Value} (e:us++rest=cur.toList):w.rangeAt b 0 us:=by
 intro j v hv;have h2:cur.toList[j]? =some v:=by grind
 grind [World.cell?]
theorem H9 {w:World} {b:Nat} {cur:Array Value} {T:TypeId} {fr:Nat×Nat} (h:w.heap[b]? =some (.cells cur T fr)) {us:List Value} (hr:w.rangeAt b 0 us):us++cur.toList.drop us.length=cur.toList:=by
 have:us=cur.toList.take us.length:=by
  apply List.ext_getElem?;intro j;by_cases hj:j<us.length
  ·have:=hr j us[j] (by simp [hj]);simp_all [World.cell?]
  grind
 grind [take_append_drop]
def St.acY (st:St) (id:Ah) (cs:List C) (q:Bool):St:={st with so:=st.so.map fun e=>if e.id==id then⟨e.id,e.row,cs,e.pu&&q⟩else e}
theorem R.stored {F:Fr} {st:St} {a:Act} {w:World} {G:AF} (h:R F st a w G) {id:Ah} {e:Au} (he:st.look id=some e) {b:Nat} (hb:G.o_ id=some b) {off:Nat} {xs:List C} {vs:List Value}
 (hx:Ai w G xs vs) (ace:off+xs.length<=e.cs.length):
 ∃ cur T,w.heap[b]? =some (.cells cur T (0,0))/\off+vs.length<=cur.size/\
   R F (st.acY id (e.cs.take off++xs++e.cs.drop (off+xs.length)) (Am xs)) a (w.setRow b (cur.toList.take off++vs++cur.toList.drop (off+vs.length)).toArray) G:=by
 obtain⟨hm,hid⟩:=Bi he;obtain⟨cur,T,afw,hle,A_⟩:=(h.store e hm).row (Wi he) (by rw [hid];exact hb);obtain⟨us,h1,h2⟩:=A_.list;have hlx:=hx.length;have hlu:=h1.length;have alY:=H9 afw h2;refine⟨cur,T,afw,by omega,?_⟩;have hbl: ∀ k,k ≠ b->(w.setRow b (cur.toList.take off++vs++cur.toList.drop (off+vs.length)).toArray).heap[k]? =w.heap[k]? :=fun k hk=>setRow_other w b k _ hk;have aam:=setRow_heap w b cur (cur.toList.take off++vs++cur.toList.drop (off+vs.length)).toArray T (0,0) afw;have hk:Cu G G w (w.setRow b (cur.toList.take off++vs++cur.toList.drop (off+vs.length)).toArray):=
  ⟨by simp,fun k _ hw=>hbl k (fun q=>hw ((h.wr k).2 (by grind))),fun _ _ q=>q,fun i k h1 _=>by
   by_cases hkb:k=b
   ·subst hkb;intro ac8 T' fz' hq;grind
   grind [Co.same]⟩
 have ahe:(us.take off++vs++us.drop (off+vs.length))++cur.toList.drop us.length=(cur.toList.take off++vs++cur.toList.drop (off+vs.length)).toArray.toList :=by grind
 have ahf:=BE aam ahe;have hl2:Ai w G (e.cs.take off++xs++e.cs.drop (off+xs.length)) (us.take off++vs++us.drop (off+vs.length)):=by rw [hlx];exact((h1.take off).append hx).append (h1.drop _)
 have ad6:=Al.aau (Ai.mono hk _ _ (fun _ _=>⟨rfl,rfl⟩) hl2) ahf;have hlen:(e.cs.take off++xs++e.cs.drop (off+xs.length)).length =e.cs.length:=by simp;omega
 have aqY:(cur.toList.take off++vs++cur.toList.drop (off+vs.length)).toArray.size =cur.size:=by simp;omega
 exact {
  dfr:=h.dfr,size:=h.size
  w_:=fun i=>Ab.mono hk _ _ (fun _ _=>⟨rfl,rfl⟩) (h.w_ i)
  I_:=As.mono hk _ _ (fun _ _=>⟨rfl,rfl⟩) h.I_
  store:=by
   intro e' he';simp only [St.acY,mem_map]at he';obtain⟨d,hd,rfl⟩:=he';split
   ·rename_i ahi;replace ahi:d.id=id:=by grind
    have:d=e:=by have hn:=h.nodup;have:=List.pairwise_map.1 hn;rcases mem_iff_getElem.1 hd with ⟨i,hi,rfl⟩;rcases mem_iff_getElem.1 hm with ⟨j,hj,rfl⟩;grind [List.pairwise_iff_getElem]
    subst this;have hE:=h.store d hd;unfold Ba at hE ⊢;simp only;split at hE
    ·rename_i hrn;obtain⟨b',q1,hbx⟩:=hE;obtain⟨T',ac8,q2,q3,q4⟩:=hbx.cells (Wi he hrn);rw [hid,hb]at q1;injection q1 with q1;subst q1;rw [afw]at q2;injection q2 with q2;injection q2 with q2a q2b;subst q2a q2b;exact⟨b,by grind, .inr ⟨T,_,aam,by rw [aqY,hlen];exact q3,ad6⟩⟩
    ·obtain⟨hl,v,q1,q2⟩:=hE;refine⟨by grind,v,q1,?_⟩;rcases q2 with q2 | ⟨b',cap,ac8,e1,e2,e3,e4,e5,e6,e7⟩
     ·grind
     ·rw [hid,hb]at e2;injection e2 with e2;subst e2;rw [afw]at e3;injection e3 with e3;injection e3 with e3a e3b;subst e3a e3b;exact .inr ⟨b,cap,_,e1,by grind,aam,e4,e5,by grind,ad6⟩
   ·rename_i ahi;replace ahi: ¬d.id=id:=by grind
    exact CF hk (fun _ _=>⟨rfl,rfl⟩) ⟨rfl,rfl⟩ (fun k hk'=>hbl k (fun q=>ahi (h.inj _ _ k hk' (by grind)))) (h.store d hd)
  deep:=by
   intro e' he';simp only [St.acY,mem_map]at he';obtain⟨d,hd,rfl⟩:=he';split
   ·rename_i ahi;replace ahi:d.id=id:=by grind
    exact By.an_ (h.deep d hd).1 (by grind [FP])
   ·rename_i ahi;replace ahi: ¬d.id=id:=by grind
    refine By.mono hk ⟨rfl,rfl⟩ (by grind) (fun k hk'=>hbl k (fun q=>ahi (h.inj _ _ k hk' (by grind)))) (fun _ k b' hb'=>hbl b' (fun q=>?_)) (h.deep d hd);have h1:BR k d.id=id:=h.inj _ _ b' hb' (by grind);have h2:=(h.deep e hm).1;rw [hid, <-h1]at h2;cases h2
  y_:=by
   intro e' he';simp only [St.acY,mem_map]at he';obtain⟨d,hd,rfl⟩:=he';split
   ·rename_i ahi;replace ahi:d.id=id:=by grind
    have:d=e:=by have hn:=h.nodup;have:=List.pairwise_map.1 hn;rcases mem_iff_getElem.1 hd with ⟨i,hi,rfl⟩;rcases mem_iff_getElem.1 hm with ⟨j,hj,rfl⟩;grind [List.pairwise_iff_getElem]
    subst this;intro hq;simp only [and_eq_true]at hq;simp only [BZ,and_eq_true];exact⟨⟨MI _ (h.y_ d hd hq.1),hq.2⟩,MJ _ (h.y_ d hd hq.1)⟩
   ·exact h.y_ d hd
  nodup:=by
   have:(st.acY id (e.cs.take off++xs++e.cs.drop (off+xs.length)) (Am xs)).so.map (·.id)=st.so.map (·.id):=by simp only [St.acY,map_map];apply List.map_congr_left;grind
   rw [this];exact h.nodup
  inj:=h.inj
  lt:=fun i k hi=>by simpa using h.lt i k hi
  new:=h.new,wr:=h.wr,aaJ:=h.aaJ,inv:=h.inv,aae:=h.aae
  os:=by simpa using h.os
  tape:=by simpa using h.tape
  output:=by simpa using h.output
  v_:=by simpa using h.v_
  ext:=fun k hk' hold=>(hbl k (fun q=>by
   rcases h.new id b hb with q2 | q2
   all_goals grind)).trans (h.ext k hk' hold)}
theorem DI {w:World} {G:AF} {e:Au} {E n len:Nat} (A_:e.row=some (E,n,len)) (h:Ba w G e):
 ∃ v vs,G.own e.id=some v/\v.oneCell'=true/\Ai w G e.cs vs/\((w.ownsRow 0 E n v len vs/\v.ownBlock=G.o_ e.id)\/ ∃ p,v= .slice (some p) 0 0/\len=0/\vs=[]/\G.o_ e.id=none):=by
 unfold Ba at h;rw [A_]at h;obtain⟨hl,v,h1,h2⟩:=h;rcases h2 with ⟨p,rfl,h0,hb⟩ | ⟨b,cap,cur,rfl,e2,e3,e4,e5,e6,e7⟩
 ·have hcs:e.cs=[]:=by simp_all
  cases p with
  | none=>exact⟨_,[],h1,rfl,by rw [hcs];simp [Ai], .inl ⟨⟨by rw [h0];simp, .inl ⟨rfl,h0⟩⟩,by rw [hb];rfl⟩⟩
  | some p=>exact⟨_,[],h1,rfl,by rw [hcs];simp [Ai],(by grind)⟩
 ·obtain⟨us,q1,q2⟩:=e7.list;have hlu:=q1.length;have alY:=H9 e3 q2;refine⟨_,us,h1,rfl,q1, .inl ⟨⟨by omega, .inr ⟨b,cap,cur,rfl,zero_le _,e3,e4,e5,e6,?_⟩⟩,by rw [e2];rfl⟩⟩;grind
theorem R.ajZ {F:Fr} {st:St} {a:Act} {w w':World} {G:AF} (h:R F st a w G) {id:Ah} {e:Au} (he:st.look id=some e) {E n len m:Nat}
 {v v':Value} {xs us:List Value} {cs:List C} {q:Bool} (hq:q=true->Am cs=true) (hob:v.ownBlock=G.o_ id) (h1:Ai w G e.cs xs) (h2:Ai w G cs us)
 (hold:w.ownsRow 0 E n v len xs) (aam:w'.ownsRow 0 E n v' (len+m) (xs++us)) (hg:w.grownBy w' v.ownBlock) (hfr:v'.ownBlock=v.ownBlock\/ ∀ b,v'.ownBlock=some b->w.heap.size<=b):
 ∃ G',R F (st.new ⟨id,some (E,n,len+m),e.cs++cs,e.pu&&q⟩) a w' G'/\G'.own id=some v'/\v'.oneCell'=true:=by
 obtain⟨hm,hid⟩:=Bi he;have abm: ∀ b,b<w.heap.size->G.o_ id ≠ some b->w'.heap[b]? =w.heap[b]? :=fun b hb Tg=>hg.block b hb (by grind);have hn: ∀ b,v'.ownBlock=some b->w.heap.size<=b\/(G.o_ id=some b/\Co w w' b):=by
  intro b hb;rcases hfr with q | q
  ·refine .inr ⟨by grind,?_⟩;have hb2:v.ownBlock=some b:=by grind
   intro cur T fz hc;rcases aam.2 with ⟨r,_⟩ | ⟨g,cap,ac8,r,_,r2,_⟩
   ·rw [r]at hb;cases hb
   ·rw [r]at hb;simp only [Value.ownBlock,injEq]at hb;subst hb;rcases hold.2 with ⟨r3,_⟩ | ⟨g3,aum,auk,r3,_,r4,_⟩
    all_goals grind [Value.ownBlock]
  grind
 have hlt: ∀ b,v'.ownBlock=some b->b<w'.heap.size:=fun b hb=>(aam.lt b hb).2;have acy:v'.oneCell'=true:=by rcases aam.2 with ⟨q,_⟩ | ⟨g,cap,cur,q,_⟩<;>rw [q]<;>rfl
 refine⟨Ci F G id v'.ownBlock (some v'),?_,by simp [Ci],acy⟩;have hk:=h.keeps id v'.ownBlock (some v') hg.size abm hn;have hpq:(e.pu&&q)=true->Am (e.cs++cs)=true:=fun hx=>by simp only [and_eq_true]at hx;rw [BZ,h.y_ e hm hx.1,hq hx.2];rfl
 have atE:=H8 (row:=some (E,n,len+m)) h hk hpq (h1.append h2);refine h.set ⟨id,some (E,n,len+m),e.cs++cs,e.pu&&q⟩ v'.ownBlock (some v') ⟨hg.os,hg.tape,hg.output⟩ hg.size abm ?_ (by grind) hpq ?_
 ·intro b hb apx;refine abm b (lt_of_lt_of_le hb h.v_) (fun q=>?_);rcases h.new id b q with q2 | q2
  all_goals grind
 ·have hl:=h1.length;have hl2:=h2.length;have hln:=aam.1;refine JZ (Au.adf _ _) ⟨by grind [N4],v',by simp [Ci,Au.P_],?_⟩;rcases aam.2 with ⟨q,h0⟩ | ⟨g,cap,cur,q,_,q2,q3,q4,q5,q6⟩
  ·simp_all [Ci,Value.ownBlock,Au.P_]
  ·refine .inr ⟨g,cap,cur,q,by simp [Ci,q,Value.ownBlock,Au.P_],q2,q3,q4,q5,?_⟩;grind [Al.aau,BE,take_append_drop]
theorem IX {P:Program} {w:World} (t ty e:TypeId) (i:TypeInfo) (z:Value) (size bytes:Nat) (ht:P.underlying t=some (.slice e)) (hi:P.info? e=some i) (hz:i.zero=some z)
 (v_:i.size=size) (hby:i.bytes=bytes) (hzs:z.cells.size=size) (hsz:0<size)
 (v:Value) (n:Nat) (xs:List Value) (aah:w.ownsRow 0 e size v n xs)
 (a:Addr) (m c:Nat) (news:List Value) (hl:news.length=m*size) (adG: ∀ j u,news[j]? =some u->w.cell? (a.add j)=some u) (h1: ∀ u∈news,u.oneCell'=true)
 (h63:n+m<=maxLen) (aiO:(n+m)*bytes<=140737488355328):
 ∃ v' w',(Builtin.append_ #[t,t] ty #[v, .slice (some a) m c]).run P w= .ok v' w'/\w'.ownsRow 0 e size v' (n+m) (xs++news)/\w.grownBy w' v.ownBlock/\
   (v'.ownBlock=v.ownBlock\/ ∀ b,v'.ownBlock=some b->w.heap.size<=b):=by
 subst v_ hby
 have hM:maxLen=9223372036854775807:=rfl;have hlen:(xs++news).length =(n+m)*i.size:=by rw [List.length_append,aah.1,hl, <-add_mul]
 have grown: ∀ old,old<n+m-> ∀ row,
  (w.drew.alloc (.cells (xs.toArray++news.toArray++Builtin.zeroCells z.cells (grownCap w (n+m) old e - (n+m))) e)).ownsRow 0 e i.size
   (.slice (some ⟨w.heap.size,0,none⟩) (n+m) (grownCap w (n+m) old e)) (n+m) (xs++news)/\
  w.grownBy (w.drew.alloc (.cells (xs.toArray++news.toArray++Builtin.zeroCells z.cells (grownCap w (n+m) old e - (n+m))) e)) row:=by
  intro old ho row;have hge:=grownCap_ge w (n+m) old e;have hcm:grownCap w (n+m) old e<=maxLen:=grownCap_le_maxLen w (n+m) old e h63;refine⟨⟨hlen, .inr ⟨w.heap.size,_,_,rfl,zero_le _,heap_alloc_new w.drew _,hge,hcm,?_,?_⟩⟩,⟨rfl,rfl,rfl,by simp,fun k hk _=>heap_alloc_old w.drew _ hk⟩⟩
  ·simp only [Array.size_append,List.size_toArray,size_zeroCells,hzs,aah.1,hl, <-add_mul];grind
  grind
 rcases aah.2 with ⟨rfl,rfl⟩ | ⟨g,cap,cur,rfl,hbg,hg,hnc,hcm,hcs,aps⟩
 ·have hx:xs=[]:=(by simp_all);subst hx;by_cases hm:m=0
  ·subst hm;have hn:news=[]:=(by grind);subst hn;refine⟨.slice none 0 0,w,?_,(by grind),⟨rfl,rfl,rfl,le_refl _,fun _ _ _=>rfl⟩, .inl rfl⟩;simp [Builtin.append_,run_underlying ht,sizeOf,typeInfo,hi,Builtin.lenOf,Builtin.firstCells,loadCells,loadCellsFrom]
  ·have hr:=run_append_nil (P:=P) w t ty e i z ht hi hz a m c news hl adG (by omega) (by omega) (by grind);have hgr:=grown 0 (by omega) (Value.ownBlock (.slice none 0 0));simp only [Nat.zero_add,List.nil_append,Array.empty_append]at hgr ⊢;grind [Value.ownBlock]
 ·by_cases aif:n+m<=cap
  ·have al0:n*i.size+news.length<=cur.size:=by rw [hl,hcs, <-add_mul];simp_all [Nat.mul_le_mul_right]
   have hr:=run_append_room (P:=P) w t ty e i ht hi g n cap cur hg a m c news hl adG h1 aif al0;refine⟨_,_,hr,⟨hlen, .inr ⟨g,cap,_,rfl,hbg,setRow_heap w g cur _ e _ hg,aif,hcm,?_,?_⟩⟩,⟨rfl,rfl,rfl,by simp,(by grind [setRow_other,Value.ownBlock])⟩, .inl rfl⟩
   all_goals grind
  ·have holds: ∀ j u,xs[j]? =some u->w.cell? ((⟨g,0,none⟩:Addr).add j)=some u:=aah.cells (g:=g) rfl;have hr:=run_append_grow (P:=P) w t ty e i z ht hi hz ⟨g,0,none⟩ n cap xs aah.1 holds a m c news hl adG (by omega) (by omega) (growslice_fits (by omega) aiO);have hgr:=grown cap (by omega) (Value.ownBlock (.slice (some ⟨g,0,none⟩) n cap));grind [Value.ownBlock]
theorem R.ami {F:Fr} {st:St} {a:Act} {w:World} {G:AF} (h:R F st a w G) {id:Ah} {e:Au} {E n:Nat} {p:Addr} (pu:Bool) (hcs:e.cs=[]):
 ∃ G',R F (st.new ⟨id,some (E,n,0+0),e.cs++[],pu⟩) a w G'/\G'.own id=some (.slice (some p) 0 0):=by
 refine⟨Ci F G id none (some (.slice (some p) 0 0)),?_,by simp [Ci]⟩;rw [hcs];refine h.set ⟨id,some (E,n,0+0),[]++[],pu⟩ none _ ⟨rfl,rfl,rfl⟩ (le_refl _) (fun _ _ _=>rfl) (fun _ _ _=>rfl) (by grind) (fun _=>rfl) ?_;refine JZ (Au.adf _ _) ⟨by rw [N4];simp,_,by simp_all [Ci,Au.P_], .inl ⟨some p,rfl,rfl,by simp [Ci,Au.P_]⟩⟩
theorem IY {P:Program} {w:World} (t ty e:TypeId) (i:TypeInfo) (z:Value) (size bytes:Nat) (ht:P.underlying t=some (.slice e)) (hi:P.info? e=some i) (hz:i.zero=some z)
 (v_:i.size=size) (hby:i.bytes=bytes) (hzs:z.cells.size=size) (hsz:0<size) (p:Addr)
 (a:Addr) (m c:Nat) (news:List Value) (hl:news.length=m*size) (adG: ∀ j u,news[j]? =some u->w.cell? (a.add j)=some u) (hm:0<m)
 (h63:m<=maxLen) (aiO:m*bytes<=140737488355328):
 ∃ v' w',(Builtin.append_ #[t,t] ty #[.slice (some p) 0 0, .slice (some a) m c]).run P w= .ok v' w'/\w'.ownsRow 0 e size v' m news/\w.grownBy w' none/\
   ∀ b,v'.ownBlock=some b->w.heap.size<=b:=by
 subst v_ hby
 have hM:maxLen=9223372036854775807:=rfl;have hr:=run_append_grow (P:=P) w t ty e i z ht hi hz p 0 0 [] (by simp) (by grind) a m c news hl adG (by omega) (by omega) (by simp_all [growslice_fits]);have hge:=grownCap_ge w (0+m) 0 e;have hcm:grownCap w (0+m) 0 e<=maxLen:=grownCap_le_maxLen w (0+m) 0 e (by omega);refine⟨_,_,hr,⟨hl, .inr ⟨w.heap.size,_,_,by simp,zero_le _,heap_alloc_new w.drew _,by grind,hcm,?_,?_⟩⟩,⟨rfl,rfl,rfl,by simp,fun k hk _=>heap_alloc_old w.drew _ hk⟩,(by grind [Value.ownBlock])⟩
 ·simp only [Array.size_append,List.size_toArray,size_zeroCells,hzs,hl, <-add_mul,List.length_nil,Nat.zero_add]at hge ⊢;grind
 grind
end Go.PL
namespace Go.PL
open Go Go.RowKit
mutual
def V.pure:V->Bool
 | .c x=>x.pure
 | .agg cs=>Am cs
 | .tup vs=>Cq vs
 | .g b v=> !b||v.pure
 | .undef =>true
def Cq:List V->Bool
 | []=>true
 | v::vs=>v.pure&&Cq vs
end
mutual
theorem O3 (id:Ah): ∀ v:V,v.pure=true->v.p_ id=false
 | .c x,h=>by grind [V.p_,Im,V.pure]
 | .agg cs,h=>by grind [V.p_,AQ,V.pure]
 | .tup vs,h=>by simp only [V.p_];exact WN id vs (by simpa only [V.pure] using h)
 | .g b v,h=>by
   cases b with
   | false=>simp [V.p_]
   | true=>simp only [V.pure,Bool.not_true,Bool.false_or]at h;simp [V.p_,O3 id v h]
 | .undef,_=>by simp [V.p_]
theorem WN (id:Ah): ∀ vs:List V,Cq vs=true->LA id vs=false
 | [],_=>by simp [LA]
 | v::vs,h=>by simp only [Cq,and_eq_true]at h;simp [LA,O3 id v h.1,WN id vs h.2]
end
def im (av:Nat->Prop):AF:=⟨fun _=>none,fun _=>none,av⟩
theorem WO {w:World} {av:Nat->Prop} {G:AF} (hG: ∀ b,b<w.heap.size->G.wr b->av b) {x:V} {v:Value} (hp:x.pure=true) (h:Ab w (im av) x v):Ab w G x v:=
 Ab.mono (G:=im av) (G':=G) ⟨le_refl _,fun _ _ _=>rfl,fun b hb hw=>hG b hb hw,fun _ _ _ _=>Co.same rfl⟩ x v (fun id hid=>absurd (show x.p_ id=true from hid) (by rw [O3 id x hp];simp)) h
theorem o9 {w:World} {av:Nat->Prop} {G:AF} (hG: ∀ b,b<w.heap.size->av b->G.wr b) {x:V} {v:Value} (hp:x.pure=true) (h:Ab w G x v):Ab w (im av) x v:=
 Ab.mono (G:=G) (G':=im av) ⟨le_refl _,fun _ _ _=>rfl,fun b hb hw=>hG b hb hw,fun _ _ _ _=>Co.same rfl⟩ x v (fun id hid=>absurd (show x.p_ id=true from hid) (by rw [O3 id x hp];simp)) h
def KN (id:Ah) (len:Nat) (cs:List C):C->C
 | .j_ i=>if i=id then .sl len cs else .j_ i
 | .ptr i o=>if i=id then .any else .ptr i o
 | .bsl i o n=>if i=id then .any else .bsl i o n
 | .rsl i N o n=>if i=id then .any else .rsl i N o n
 | .bld i T=>if i=id then .any else .bld i T
 | .afo i=>if i=id then .any else .afo i
 | .clo f ds=>if BU id ds then .any else .clo f ds
 | .bmv f ds=>if BU id ds then .any else .bmv f ds
 | c=>c
mutual
def L4 (id:Ah) (len:Nat) (cs:List C):V->V
 | .c x=> .c (KN id len cs x)
 | .agg ds=> .agg (ds.map (KN id len cs))
 | .tup vs=> .tup (Nu id len cs vs)
 | .g b v=> .g b (L4 id len cs v)
 | .undef => .undef
def Nu (id:Ah) (len:Nat) (cs:List C):List V->List V
 | []=>[]
 | v::vs=>L4 id len cs v::Nu id len cs vs
end
def Au.frz (id:Ah) (len:Nat) (cs:List C) (e:Au):Au:=match e with
 | ⟨i,r,ds,true⟩=>⟨i,r,ds,true⟩
 | ⟨i,r,ds,false⟩=>⟨i,r,ds.map (KN id len cs),false⟩
theorem Au.aiQ (id:Ah) (len:Nat) (cs:List C) (e:Au):(e.frz id len cs).id =e.id:=by obtain⟨i,r,cs,_ | _⟩:=e<;>rfl
theorem Au.aq7 {id:Ah} {len:Nat} {cs:List C} {e:Au} {kv:List (Int×Int)} (h:e.cs=[.mp kv]):(e.frz id len cs).cs =[.mp kv]:=by
 obtain⟨i,r,ds,_ | _⟩:=e
 ·simp only at h;subst h;rfl
 ·exact h
theorem Au.aoS (id:Ah) (len:Nat) (cs:List C) (e:Au):(e.frz id len cs).row =e.row:=by obtain⟨i,r,cs,_ | _⟩:=e<;>rfl
def St.freeze (st:St) (id:Ah):St:=
 match st.look id with
 | some e=>match e.row with
   | some (_,_,len)=>if !e.pu then st else
    {tm:=st.tm.map (L4 id len e.cs),so:=(st.so.filter (fun d=>d.id != id)).map (Au.frz id len e.cs),gh:=Nu id len e.cs st.gh,pre:=st.pre}
   | none=>st
 | none=>st
section
variable {F:Fr} {w:World} {G:AF} {id:Ah} {len:Nat} {cs:List C}
structure Frz (F:Fr) (w:World) (G:AF) (id:Ah) (len:Nat) (cs:List C):Prop where
 own: ∀ v,G.own id=some v->Ae w (Ci F G id none none) (.sl len cs) v
 keeps:Cu G (Ci F G id none none) w w
theorem iE (hf:Frz F w G id len cs) {c:C} {v:Value} (h:Ae w G c v):Ae w (Ci F G id none none) (KN id len cs c) v:=by
 have hm: ∀ d:C,d.p_ id=false->Ae w G d v->Ae w (Ci F G id none none) d v:=fun d hd hr=>
  Ae.mono hf.keeps d v (by grind [Du]) hr
 cases c with
 | j_ i=>
   simp only [KN];split
   ·rename_i hi;subst hi;simp only [Ae]at h;exact hf.own v h.1
   grind [C.p_]
 | ptr i o=>
   simp only [KN];split
   ·simp only [Ae];exact h.one
   grind [C.p_]
 | bsl i o n=>
   simp only [KN];split
   ·simp only [Ae];exact h.one
   grind [C.p_]
 | rsl i N o n=>
   simp only [KN];split
   ·simp only [Ae];exact h.one
   grind [C.p_]
 | bld i T=>
   simp only [KN];split
   ·simp only [Ae];exact h.one
   grind [C.p_]
 | sl l ds=>exact hm (.sl l ds) (by simp [C.p_]) h
 | aby ds o=>exact hm (.aby ds o) (by simp [C.p_]) h
 | int k n=>exact hm (.int k n) (by simp [C.p_]) h
 | bool b=>exact hm (.bool b) (by simp [C.p_]) h
 | str s=>exact hm (.str s) (by simp [C.p_]) h
 | ab_=>exact hm (.ab_) (by simp [C.p_]) h
 | aag=>exact hm (.aag) (by simp [C.p_]) h
 | L_=>exact hm (.L_) (by simp [C.p_]) h
 | fn f=>exact hm (.fn f) (by simp [C.p_]) h
 | clo f ds=>
   simp only [KN];split
   ·simp only [Ae];exact h.one
   grind [C.p_]
 | bmv f ds=>
   simp only [KN];split
   ·simp only [Ae];exact h.one
   grind [C.p_]
 | held=>exact hm (.held) (by simp [C.p_]) h
 | any=>exact hm (.any) (by simp [C.p_]) h
 | afo i=>
   simp only [KN];split
   ·simp only [Ae];exact h.one
   grind [C.p_]
 | mp kv=>exact hm (.mp kv) (by simp [C.p_]) h
 | afy g o=>exact hm (.afy g o) (by simp [C.p_]) h
 | isl E n l ds=>exact hm (.isl E n l ds) (by simp [C.p_]) h
theorem WP (hf:Frz F w G id len cs): ∀ {ds:List C} {vs:List Value},Ai w G ds vs->Ai w (Ci F G id none none) (ds.map (KN id len cs)) vs
 | [],[],_=>by simp [Ai]
 | [],_::_,h=>by simp [Ai]at h
 | _::_,[],h=>by simp [Ai]at h
 | c::ds,v::vs,h=>by simp only [Ai]at h;simp only [map_cons,Ai];exact⟨iE hf h.1,WP hf h.2⟩
mutual
theorem WQ (hf:Frz F w G id len cs): ∀ (x:V) (v:Value),Ab w G x v->Ab w (Ci F G id none none) (L4 id len cs x) v
 | .c x,v,h=>by grind [Ab,L4,iE]
 | .agg ds,v,h=>by grind [Ab,L4,WP]
 | .tup vs,v,h=>by simp only [Ab,L4]at h ⊢;obtain⟨arr,e,hr⟩:=h;exact⟨arr,e,SQ hf vs _ hr⟩
 | .g b x,v,h=>by
   simp only [Ab,L4]at h ⊢;split
   all_goals simp_all [WQ]
 | .undef,_,_=>by simp only [Ab,L4]
theorem SQ (hf:Frz F w G id len cs): ∀ (xs:List V) (vs:List Value),As w G xs vs->As w (Ci F G id none none) (Nu id len cs xs) vs
 | [],_,h=>by grind [As,Nu]
 | x::xs,vs,h=>by simp only [As,Nu]at h ⊢;obtain⟨v,r,e,h1,h2⟩:=h;exact⟨v,r,e,WQ hf x v h1,SQ hf xs r h2⟩
end
end
theorem R.frz {F:Fr} {st:St} {a:Act} {w:World} {G:AF} (h:R F st a w G) {id:Ah} {e:Au} (he:st.look id=some e) {E n len:Nat} (A_:e.row=some (E,n,len)) (hpu:Am e.cs=true):
 Frz F w G id len e.cs where
 keeps:=h.keeps id none none (le_refl _) (fun _ _ _=>rfl) (by grind)
 own:=by
  intro v hv;obtain⟨hm,hid⟩:=Bi he;have hE:=h.store e hm;unfold Ba at hE;rw [A_]at hE;obtain⟨hl,v',h1,h2⟩:=hE;rw [hid,hv]at h1;injection h1 with h1;subst h1;have axF:=AQ id e.cs hpu;simp only [Ae];refine⟨hpu,?_⟩;rcases h2 with ⟨p,rfl,h0,_⟩ | ⟨b,cap,cur,rfl,e2,e3,e4,e5,e6,e7⟩
  ·refine⟨p,0,by rw [h0],by omega,by grind,fun _=>?_, .inl h0⟩;simp_all
  ·rw [hid]at e2;refine⟨_,cap,rfl,e4,e5,fun h0=>?_, .inr ⟨b,0,rfl,?_,h.lt id b e2,?_⟩⟩
   ·simp_all
   ·simp only [Ci];rintro(q | ⟨i,q⟩)
    ·rcases h.new id b e2 with q2 | q2
     ·have:=h.aaJ b q;omega
     ·exact h.aae b q2 q
    ·split at q
     ·cases q
     ·rename_i hi;exact hi (h.inj i id b q e2)
   ·have hk:=h.keeps id none none (le_refl _) (fun _ _ _=>rfl) (by grind);exact Al.mono hk _ _ _ (by grind [Du]) (fun _=>rfl) e7
def St.ab9 (st:St) (id:Ah):Bool:=
 match st.look id with
 | some e=>match e.row with
   | some _=>e.pu
   | none=>false
 | none=>false
theorem R.freeze {F:Fr} {st:St} {a:Act} {w:World} {G:AF} (h:R F st a w G) (id:Ah):
 ∃ G',R F (st.freeze id) a w G'/\(∀ b,G'.wr b->G.wr b)/\(st.ab9 id=true-> ∀ b,G.o_ id=some b-> ¬G'.wr b):=by
 have hid: ∀ b,G.wr b->G.wr b:=fun _ q=>q;unfold St.freeze;split
 ·rename_i e he;split
  ·rename_i E n len A_;split
   ·grind [St.ab9]
   ·rename_i axF;have hm0:=(Bi he).1;have hf:=h.frz he A_ (h.y_ e hm0 (by grind));refine⟨Ci F G id none none,h.rename id none none ⟨rfl,rfl,rfl⟩ (le_refl _) (fun _ _ _=>rfl) (by grind) _ (by simp) ?_ ?_ ?_ ?_ ?_ ?_,?_,?_⟩
    rotate_right 2
    ·intro b hb;simp only [Ci]at hb;rw [h.wr];grind
    ·intro _ b hb hw;simp only [Ci]at hw;rcases hw with q | ⟨i,q⟩
     ·rcases h.new id b hb with q2 | q2
      ·have:=h.aaJ b q;omega
      ·exact h.aae b q2 q
     ·split at q
      ·cases q
      ·rename_i hi;exact hi (h.inj i id b q hb)
    ·intro i;simp only;rw [Gl (st:=st) (by simp [L4])];exact WQ hf _ _ (h.w_ i)
    ·exact SQ hf _ _ h.I_
    ·intro d hd;simp only [mem_map,mem_filter]at hd;obtain⟨d',⟨hd',Tg⟩,rfl⟩:=hd;have:=h.y_ d' hd';obtain⟨i,r,ds,pu⟩:=d';cases pu with
     | true=>exact this
     | false=>intro hq;cases hq
    ·intro d hd;simp only [mem_map,mem_filter]at hd;obtain⟨d',⟨hd',Tg⟩,rfl⟩:=hd;have ac7:d'.id ≠ id:=by grind
     have hE:=h.store d' hd';have hpd:=h.y_ d' hd';have A_: ∀ {b o},Al w G d'.cs b o->Al w (Ci F G id none none) (d'.frz id len e.cs).cs b o:=fun hr=>by
      obtain⟨vs,q1,q2⟩:=hr.list;obtain⟨i,r,ds,pu⟩:=d';cases pu with
      | true=>exact Al.mono hf.keeps _ _ _ (Du (fun j hj he=>by subst he;have hj':BU j ds=true:=hj;rw [AQ j ds (hpd rfl)]at hj';cases hj')) (fun _=>rfl) hr
      | false=>exact Al.aau (WP hf q1) q2
     have hlen:(d'.frz id len e.cs).cs.length =d'.cs.length:=by obtain⟨i,r,ds,_ | _⟩:=d'<;>simp [Au.frz]
     have hfi:=Au.aiQ id len e.cs d';have hfr:=Au.aoS id len e.cs d';unfold Ba at hE ⊢;rw [hfr];have eb:(Ci F G id none none).o_ d'.id=G.o_ d'.id:=by simp [Ci,ac7]
     have eo:(Ci F G id none none).own d'.id=G.own d'.id:=by simp [Ci,ac7]
     rw [hfi,eb,eo];split at hE
     ·obtain⟨b,q1,q2⟩:=hE;refine⟨b,q1,?_⟩;rcases q2 with ⟨kv,es,q2,q3⟩ | ⟨T,cur,q2,q3,q4⟩
      ·exact .inl ⟨kv,es,Au.aq7 q2,q3⟩
      ·exact .inr ⟨T,cur,q2,by rw [hlen];exact q3,A_ q4⟩
     ·obtain⟨hl,v,q1,q2⟩:=hE;refine⟨by grind,v,q1,?_⟩;rcases q2 with q2 | ⟨b,cap,cur,e1,e2,e3,e4,e5,e6,e7⟩
      ·grind
      ·exact .inr ⟨b,cap,cur,e1,e2,e3,e4,e5,e6,A_ e7⟩
    ·intro d hd;simp only [mem_map,mem_filter]at hd;obtain⟨d',⟨hd',Tg⟩,rfl⟩:=hd;have ac7:d'.id ≠ id:=by grind
     have hmk: ∀ k,BR k d'.id ≠ id:=fun k q=>by have h2:=(h.deep e hm0).1;rw [(Bi he).2, <-q]at h2;cases h2
     have hD:By w G (d'.frz id len e.cs):=by
      have h1:=h.deep d' hd';obtain⟨i,r,ds,pu⟩:=d';cases pu with
      | true=>exact h1
      | false=>exact⟨h1.1,fun hq=>absurd (h1.2 hq).1 (by simp)⟩
     have hfi:=Au.aiQ id len e.cs d';exact By.mono hf.keeps (by grind [Ci]) (by grind [Ci]) (fun _ _=>rfl) (fun _ _ _ _=>rfl) hD
    ·have:(((st.so.filter (fun d=>d.id != id)).map (Au.frz id len e.cs)).map (·.id))=(st.so.filter (fun d=>d.id != id)).map (·.id):=by simp_all [Au.aiQ]
     simp only;rw [this];exact List.Sublist.nodup (by grind [List.filter_sublist]) h.nodup
  grind [St.ab9]
 grind [St.ab9]
end Go.PL
namespace Go.PL
open Go Go.RowKit
theorem UC {w:World} {G:AF}: ∀ {cs:List C} {vs:List Value},cs.length=vs.length->(∀ (i:Nat) (c:C) (v:Value),cs[i]? =some c->vs[i]? =some v->Ae w G c v)->Ai w G cs vs
 | [],[],_,_=>by simp [Ai]
 | [],_::_,h,_=>by simp at h
 | _::_,[],h,_=>by simp at h
 | c::cs,v::vs,h,hr=>by simp only [Ai];exact⟨hr 0 c v (by simp) (by simp),UC (by simpa using h) (fun i c' v' h1 h2=>hr (i+1) c' v' (by simpa using h1) (by simpa using h2))⟩
def B7 (z:List C) (k:Nat):List C:=(List.range (k*z.length)).map (fun i=>z.getD (i % z.length) .any)
theorem L5 {w:World} {G:AF} {z:List C} {zv:Array Value} (h:Ai w G z zv.toList) (hz:0<z.length) (k:Nat):
 Ai w G (B7 z k) ((Array.range (k*zv.size)).map (zv[· % zv.size]!)).toList :=by
 have hl:z.length=zv.size:=by simpa using h.length
 refine UC (by simp [B7,hl]) (fun i c v h1 h2=>?_);simp only [B7,List.getElem?_map]at h1;simp only [Array.toList_map,List.getElem?_map,Array.toList_range]at h2;by_cases hi:i<k*z.length
 ·rw [List.getElem?_range (by omega)]at h1;rw [List.getElem?_range (by rw [<-hl];omega)]at h2;simp only [map_some,injEq]at h1 h2;have hm:i % z.length<z.length:=Nat.mod_lt _ hz;obtain⟨v',q1,q2⟩:=h.get (i % z.length) z[i % z.length] (by simp [hm]);grind
 grind
theorem iF: ∀ {v:Value} {c:C},CY v=some c->c.pure=true:=by intro v c h;unfold CY at h;split at h<;>first | (cases h;done) | (injection h with h;subst h;rfl)
theorem UD: ∀ {vs:List Value} {cs:List C},Ee vs=some cs->Am cs=true
 | [],cs,h=>by simp [Ee]at h;subst h;rfl
 | v::vs,cs,h=>by
   unfold Ee at h;split at h
   ·rename_i c cs' h1 h2;injection h with h;subst h;simp only [Am,iF h1,UD h2,Bool.and_self]
   ·cases h
theorem UE {z:List C} (h:Am z=true) (k:Nat):Am (B7 z k)=true:=O1 _ (fun _=>qO _ h) _
def WR:Value->Option C
 | .slice none 0 0=>some .L_
 | v=>CY v
def Ji:List Value->Option (List C)
 | []=>some []
 | v::vs=>match WR v,Ji vs with
   | some c,some cs=>some (c::cs)
   | _,_=>none
theorem iG {w:World} {G:AF}: ∀ {v:Value} {c:C},WR v=some c->Ae w G c v:=by grind [WR,Ae,P4]
theorem KZ {w:World} {G:AF}: ∀ {vs:List Value} {cs:List C},Ji vs=some cs->Ai w G cs vs
 | [],cs,h=>by grind [Ji,Ai]
 | v::vs,cs,h=>by
   unfold Ji at h;split at h
   ·rename_i c cs' h1 h2;injection h with h;subst h;simp only [Ai];exact⟨iG h1,KZ h2⟩
   ·cases h
def UF (P:Program) (t:TypeId):Option (List C):=
 match P.info? t with
 | some i=>match i.zero with
   | some z=>Ji z.cells.toList
   | none=>none
 | none=>none
theorem Qd {P:Program} {t:TypeId} {cs:List C} (h:UF P t=some cs): ∃ i z,P.info? t=some i/\i.zero=some z/\Ji z.cells.toList=some cs:=by grind [UF]
def Hj:C->C
 | .L_ => .sl 0 []
 | c=>c
def V.ae6:V->V
 | .c x=> .c (Hj x)
 | .agg cs=> .agg (cs.map Hj)
 | v=>v
def Rb (p:Nat×V):Nat×V:=(p.1,p.2.ae6)
theorem JC {w:World} {G:AF} {c:C} {v:Value} (h:Ae w G c v):Ae w G (Hj c) v:=by
 cases c<;>try exact h
 simp only [Ae]at h;subst h;simp only [Hj,Ae];exact⟨rfl,none,0,rfl,le_refl _,zero_le _,fun _=>trivial, .inl trivial⟩
theorem SR {w:World} {G:AF}: ∀ {cs:List C} {vs:List Value},Ai w G cs vs->Ai w G (cs.map Hj) vs
 | [],[],_=>by simp [Ai]
 | [],_::_,h=>by grind
 | _::_,[],h=>by simp [Ai]at h
 | c::cs,v::vs,h=>by simp only [Ai]at h;simp only [map_cons,Ai];exact⟨JC h.1,SR h.2⟩
theorem qU {w:World} {G:AF} {x:V} {v:Value} (h:Ab w G x v):Ab w G x.ae6 v:=by cases x<;>grind [V.ae6,Ab,JC,SR]
structure Eff (P:Program) (F:Fr) (o:Oper) (a:Act) (w:World) (a_:St):Prop where
 out: ∃ nx w' G',(execOp a.eval o).run P w= .ok nx w'/\((∃ v,nx= .value v/\R F a_ (a.put o.dst v) w' G')\/(nx= .skip /\R F a_ (a.put o.dst Go.undef) w' G'))
def St.parts (st:St) (g:Bool) (ps:List (Nat×Operand)):Prop×List (Nat×V):=
 match ps with
 | []=>(True,[])
 | (i,x)::r=>((st.arg g x).1/\(St.parts st g r).1,(i,(st.arg g x).2)::(St.parts st g r).2)
theorem R.parts {F:Fr} {st:St} {a:Act} {w:World} {G:AF} (h:R F st a w G) {g:Bool} (hg:g=true): ∀ {ps:List (Nat×Operand)},(st.parts g ps).1->NV w G (st.parts g ps).2 (ps.map fun(i,x)=>(i,a.eval x))
 | [],_=>by simp [St.parts,NV]
 | (i,x)::r,hs=>by simp only [St.parts]at hs ⊢;simp only [map_cons,NV];exact⟨trivial,h.arg hg hs.1,h.parts hg hs.2⟩
def plc (P:Program) (t:TypeId) (i:Nat):Option (Nat×Nat):=
 match P.underlying t with
 | some (.array _ e)=>match P.info? e with
   | some inf=>some (i*inf.size,inf.size)
   | none=>none
 | some (.struct fs)=>match fs.toList.mapM (fun f=>(P.info? f.type).map fun i=>(f.offset,i.size))with
   | some ps=>ps[i]?
   | none=>none
 | _=>none
def pe (P:Program) (t:TypeId):Bool:=
 match P.underlying t with
 | some (.array _ e)=>(P.info? e).isSome
 | some (.struct fs)=>(fs.toList.mapM (fun f=>(P.info? f.type).map fun i=>(f.offset,i.size))).isSome
 | _=>false
def N5 (P:Program) (st:St) (g:Bool) (t:TypeId) (ps:List (Nat×Operand)):Prop×V:=
 match UF P t with
 | some z=>match Jc (plc P t) z (st.parts g ps).2 with
   | some cs=>((st.parts g ps).1/\pe P t=true, .agg cs)
   | none=>no
 | none=>no
def Rc (st:St) (n:Nat):V->Option (Nat×List C×Bool)
 | .c (.sl m cs)=>if cs.length=m*n then some (m,cs,true)else none
 | .c (.j_ id)=>match st.look id with
   | some e=>match e.row with
     | some (_,n',m)=>if n'=n then some (m,e.cs,e.pu)else none
     | none=>none
   | none=>none
 | _=>none
def DR (P:Program) (t:TypeId):Option (TypeId×Nat×Nat):=
 match P.underlying t with
 | some (.slice e)=>match P.info? e with
   | some i=>match i.zero with
     | some z=>if z.cells.size=i.size then some (e,i.size,i.bytes)else none
     | none=>none
   | none=>none
 | _=>none
def Hs (P:Program) (st:St) (T:TypeId) (x y:V):Prop×St:=
 match x,y.cells,KS P T with
 | .c (.ptr id off),some cs,some (_,n)=>match st.look id with
   | some e=>(cs.length=n/\off+n<=e.cs.length,st.acY id (e.cs.take off++cs++e.cs.drop (off+cs.length)) (Am cs))
   | none=>(False,st)
 | _,_,_=>(False,st)
def GM (P:Program) (st:St) (d:Nat) (t:TypeId) (s x:V):Prop×St:=
 match s,DR P t with
 | .c (.j_ id),some (E,n,by')=>match st.look id,Rc st n x with
   | some e,some (m,cs,q)=>match e.row with
     | some (E',n',len)=>(E'=E/\n'=n/\0<n/\(len+m)*by'<=140737488355328/\len+m<=maxLen,(st.new ⟨id,some (E,n,len+m),e.cs++cs,e.pu&&q⟩).put (some d) (.c (.j_ id)))
     | none=>(False,st)
   | _,_=>(False,st)
 | _,_=>(False,st)
def UG (P:Program) (st:St) (d:Nat) (t:TypeId) (x y:V):Prop×St:=
 match x,y,Dt P t with
 | .c (.bsl id off len), .c (.bsl id2 afn abf),some (_,1)=>match st.look id,st.look id2 with
   | some e,some e2=>(off+Nat.min abf len<=e.cs.length/\afn+Nat.min abf len<=e2.cs.length,
    (st.acY id (e.cs.take off++(e2.cs.drop afn).take (Nat.min abf len)++e.cs.drop (off+((e2.cs.drop afn).take (Nat.min abf len)).length)) (Am ((e2.cs.drop afn).take (Nat.min abf len)))).put (some d) (.c (.int .i64 (Nat.min abf len:Nat))))
   | _,_=>(False,st)
 | _,_,_=>(False,st)
def K0 (P:Program) (st:St) (d:Nat) (t:TypeId) (l c:V):Prop×St:=
 match l,c,DR P t with
 | .c (.int _ l), .c (.int _ c),some (E,n,by')=>match Nt P E with
   | some z=>(0<=l/\l<=c/\c*by'<=140737488355328/\c<=maxLen/\z.length=n/\0<n,(st.new ⟨d::st.pre,some (E,n,l.toNat),B7 z l.toNat,true⟩).put (some d) (.c (.j_ (d::st.pre))))
   | none=>(False,st)
 | _,_,_=>(False,st)
def Bf (P:Program) (st:St) (d:Nat) (t:TypeId) (len:Nat) (ps:List (Nat×Operand)):Prop×St:=
 match DR P t with
 | some (E,n,_)=>match Nt P E with
   | some z=>match Jc (fun i=>some (i*n,n)) (B7 z len) ((st.parts true ps).2.map Rb)with
     | some cs=>((st.parts true ps).1/\z.length=n/\0<n/\len*n<=2 ^ 24,(st.new ⟨d::st.pre,some (E,n,len),cs,Am cs⟩).put (some d) (.c (.j_ (d::st.pre))))
     | none=>(False,st)
   | none=>(False,st)
 | none=>(False,st)
def mt:Operand->V->V
 | .const (.slice none 0 0),_=> .c .L_
 | _,v=>v
def VJ (st:St) (x v:V):V:=
 match v with
 | .c .L_ =>match x with
   | .c (.ptr id _)=>match st.look id with
     | some e=>match e.row with
       | some _=> .c (.sl 0 [])
       | none=>v
     | none=>v
   | _=>v
 | _=>v
theorem iH {w:World} {G:AF} {st:St} {x v:V} {u:Value} (h:Ab w G v u):Ab w G (VJ st x v) u:=by
 unfold VJ;split
 ·have h2:Ab w G (.c (.sl 0 [])) u:=by simp only [Ab]at h ⊢;exact JC h
  grind
 ·exact h
theorem iI {w:World} {G:AF} {a:Act} {y:Operand} {v:V} (h:Ab w G v (a.eval y)):Ab w G (mt y v) (a.eval y):=by
 unfold mt;split
 ·simp only [Ab,Ae];rfl
 ·exact h
def ef (P:Program) (st:St) (o:Oper):Prop×St:=
 match o.op with
 | .store T x y=>let r:=Hs P st T (st.arg true x).2 (VJ st (st.arg true x).2 (mt y (st.arg true y).2))
   ((st.arg true x).1/\(st.arg true y).1/\r.1,r.2.put o.dst .undef)
 | op=>match o.dst with
   | none=>(False,st)
   | some d=>match op with
     | .alloc T=>match UF P T with
       | some cs=>(True,(st.new ⟨d::st.pre,none,cs,false⟩).put (some d) (.c (.ptr (d::st.pre) 0)))
       | none=>(False,st)
     | .box T x=>match (st.arg true x).2.cells with
       | some cs=>((st.arg true x).1/\T=T,(st.new ⟨d::st.pre,none,cs,false⟩).put (some d) (.c (.ptr (d::st.pre) 0)))
       | none=>(False,st)
     | .assign (.const (.slice none 0 0))=>match Dt P o.type with
       | some (E,n)=>(True,(st.new ⟨d::st.pre,some (E,n,0),[],true⟩).put (some d) (.c (.j_ (d::st.pre))))
       | none=>(False,st)
     | .buildSlice t len ps=>Bf P st d t len ps.toList
     | .makeSlice t l c=>let r:=K0 P st d t (st.arg true l).2 (st.arg true c).2
       ((st.arg true l).1/\(st.arg true c).1/\r.1,r.2)
     | .call c=>match c.callee,c.args.toList,c.argTypes.toList with
       | .builtin .append,[s,x],[t,t']=>let r:=GM P st d t (st.arg true s).2 (st.arg true x).2
         ((st.arg true s).1/\(st.arg true x).1/\t=t'/\r.1,r.2)
       | .builtin .copy,[s,x],[t,t']=>let r:=UG P st d t (st.arg true s).2 (st.arg true x).2
         ((st.arg true s).1/\(st.arg true x).1/\t'=t'/\r.1,r.2)
       | _,_,_=>(False,st)
     | _=>(False,st)
theorem O4 {w:World} {G:AF}: ∀ {xs:List (Nat×V)} {ys:List (Nat×Value)},NV w G xs ys->NV w G (xs.map Rb) ys
 | [],[],h=>h
 | (i,x)::xs,(j,v)::ys,h=>by simp only [NV]at h;simp only [map_cons,Rb,NV];exact⟨h.1,qU h.2.1,O4 h.2.2⟩
 | [],_::_,h=>by grind
 | _::_,[],h=>by simp [NV]at h
theorem ez {P:Program} {F:Fr} {st:St} {a:Act} {w:World} {G:AF} (h:R F st a w G) {g:Bool} (hg:g=true) {t:TypeId} {ps:Array (Nat×Operand)} (hs:(N5 P st g t ps.toList).1):
 ∃ v,Ab w G (N5 P st g t ps.toList).2 v/\ ∀ w',(Instr.build t (ps.map fun(i,x)=>(i,a.eval x))).run P w'= .ok v w':=by
 unfold N5 at *;split at hs
 ·rename_i z hz;split at hs
  ·rename_i cs hf;obtain⟨i,zv,hi,hzv,hc⟩:=Qd hz;obtain⟨aa5,q1,q2⟩:=J3 hf (h.parts hg hs.1) (KZ (w:=w) (G:=G) hc);refine⟨.agg aa5,⟨aa5,rfl,q2⟩,fun w'=>run_build w' t _ aa5 ?_⟩;have hok:=hs.2;unfold pe at hok;unfold Program.built;rw [hi];split at hok
   ·rename_i n e hu;cases hie:P.info? e with
    | none=>grind
    | some ie=>
      simp only [hu,hzv,hie];have e1:plc P t=fun i=>some (i*ie.size,ie.size):=by grind [plc]
      simp_all
   ·rename_i fs hu;cases hm:fs.toList.mapM (fun f=>(P.info? f.type).map fun i=>(f.offset,i.size))with
    | none=>grind
    | some pl=>
      simp only [hu,hzv,hm];have e1:plc P t=fun i=>pl[i]? :=by grind [plc]
      simp_all
   ·cases hok
  grind
 grind
theorem DJ {P:Program} {t e:TypeId} {n by':Nat} (h:DR P t=some (e,n,by')):
 ∃ i z,P.underlying t=some (.slice e)/\P.info? e=some i/\i.zero=some z/\i.size=n/\i.bytes=by'/\z.cells.size=n:=by
 unfold DR at h;grind
theorem Re {P:Program} {F:Fr} {st:St} {a:Act} {w:World} {G:AF} (h:R F st a w G) {T:TypeId} {x y:V} {u v:Value} (hx:Ab w G x u) (hy:Ab w G y v) (hs:(Hs P st T x y).1):
 ∃ w',(Instr.storeAt T u v).run P w= .ok () w'/\R F (Hs P st T x y).2 a w' G:=by
 unfold Hs at *;split at hs
 ·rename_i id off cs ag n hc ht;split at hs
  ·rename_i e he;obtain⟨h1,h2⟩:=hs;obtain⟨d,i,hu,hd,hi,hsz⟩:=Dc ht;simp only [Ab,Ae]at hx;obtain⟨b,hb,rfl⟩:=hx;have hv:=J0 hy hc;have hlv:=hv.length;obtain⟨cur,T',afw,al0,hR⟩:=h.stored he hb (off:=off) (xs:=cs) hv (by omega);refine⟨_,?_,hR⟩;have hst:=run_storeCells_at P b off T' v.cells.toList 0 cur w afw (by simpa using al0) (Ai.one hv);simp only [add_zero]at hst;simp_all [Instr.storeAt,Instr.sureAddr,storeVar,sizeOf,typeInfo]
  grind
 grind
theorem iJ {F:Fr} {st:St} {a:Act} {w:World} {G:AF} (h:R F st a w G) {n m:Nat} {x:V} {cs:List C} {q:Bool} {u:Value} (hs:Rc st n x=some (m,cs,q)) (hx:Ab w G x u):
 (q=true->Am cs=true)/\ ∃ ad cap vs,u= .slice ad m cap/\Ai w G cs vs/\vs.length=m*n/\(ad=none->m=0)/\ ∀ b,ad=some b-> ∀ j v,vs[j]? =some v->w.cell? (b.add j)=some v:=by
 unfold Rc at hs;split at hs
 ·split at hs
  ·rename_i hl;simp only [injEq,Prod.mk.injEq]at hs;obtain⟨rfl,rfl,rfl⟩:=hs;simp only [Ab,Ae]at hx;refine⟨fun _=>hx.1,?_⟩;obtain⟨_,ad,cap,rfl,_,_,h0,h1 | ⟨b,o,rfl,_,_,hr⟩⟩:=hx
   ·have:=h0 h1;subst this;exact⟨ad,cap,[],rfl,by simp [Ai],by grind,fun _=>h1,(by grind)⟩
   ·obtain⟨vs,q1,q2⟩:=hr.list;have:=q1.length;exact⟨_,cap,vs,rfl,q1,by omega,(by simp),fun b' hb' j v hv=>by injection hb' with hb';subst hb';rw [Addr.add_mid];exact q2 j v hv⟩
  ·cases hs
 ·split at hs
  ·rename_i e hlk;split at hs
   ·rename_i E n' m' A_;split at hs
    ·rename_i hn;simp only [injEq,Prod.mk.injEq]at hs;obtain⟨rfl,rfl,rfl⟩:=hs;obtain⟨hm,hid⟩:=Bi hlk;refine⟨h.y_ e hm,?_⟩;have hE:=h.store e hm;obtain⟨v,vs,k1,k2,k3,k4⟩:=DI A_ hE;simp only [Ab,Ae]at hx;rw [hid]at k1;rw [k1]at hx;obtain⟨hx,_⟩:=hx;injection hx with hx;subst hx;rcases k4 with ⟨k4,k5⟩ | ⟨p,rfl,q0,rfl,_⟩
     rotate_left
     ·grind
     rcases k4.2 with ⟨q,q0⟩ | ⟨g,cap,cur,q,_⟩
     ·have:vs=[]:=by have:=k4.1;simp_all
      grind
     ·refine⟨_,cap,vs,q,k3,by rw [k4.1,hn],(by simp),fun b hb j v hv=>?_⟩;injection hb with hb;subst hb;exact k4.cells (by rw [q];rfl) j v hv
    ·cases hs
   ·cases hs
  ·cases hs
 ·cases hs
theorem Z7 {P:Program} {F:Fr} {st:St} {a:Act} {w:World} {G:AF} (h:R F st a w G) {d:Nat} {t ty:TypeId} {s x:V} {u v:Value} (hx:Ab w G s u) (hy:Ab w G x v) (hs:(GM P st d t s x).1):
 ∃ r w' G',(Builtin.append_ #[t,t] ty #[u,v]).run P w= .ok r w'/\R F (GM P st d t s x).2 (a.put (some d) r) w' G':=by
 unfold GM at *;split at hs
 ·rename_i id E n by' abg;split at hs
  ·rename_i e m cs q hlk aqG;split at hs
   ·rename_i E' n' len A_;obtain⟨rfl,rfl,M5,aiO,aqN⟩:=hs;obtain⟨i,z,hu,hi,hz,hsz,hby,hzs⟩:=DJ abg;obtain⟨hm,hid⟩:=Bi hlk;obtain⟨u',xs,k1,k2,k3,k4⟩:=DI A_ (h.store e hm);simp only [Ab,Ae]at hx;rw [hid]at k1;rw [k1]at hx;obtain⟨hx,_⟩:=hx;injection hx with hx;subst hx;obtain⟨hqp,ad,cap,us,rfl,q1,q2,q3,q4⟩:=iJ h aqG hy;rcases k4 with ⟨k4,k5⟩ | ⟨p,rfl,rfl,rfl,k5⟩
    rotate_left
    ·rw [hid]at k5;have hcs:e.cs=[]:=List.length_eq_zero_iff.1 (by simpa using k3.length);by_cases hm0:m=0
     ·subst hm0;have hus:us=[]:=by grind
      subst hus;have hc0:cs=[]:=List.length_eq_zero_iff.1 (by simpa using q1.length);subst hc0;have s_:(Builtin.append_ #[t,t] ty #[.slice (some p) 0 0, .slice ad 0 cap]).run P w= .ok (.slice (some p) 0 0) w:=by cases ad<;>simp [Builtin.append_,run_underlying hu,sizeOf,typeInfo,program,Sem.run,hi,Builtin.lenOf,Builtin.firstCells,storeCells,loadCells,loadCellsFrom]
      obtain⟨G',g1,g2⟩:=h.ami (id:=id) (e:=e) (E:=E') (n:=n') (p:=p) (e.pu&&q) hcs;refine⟨_,w,G',s_,?_⟩;exact R.put (d:=some d) g1 (show Ab w G' (V.c (C.j_ id)) (.slice (some p) 0 0) by simp only [Ab,Ae];grind)
     ·obtain⟨b,rfl⟩: ∃ b,ad=some b:=by cases ad<;>grind
      obtain⟨r,w',s_,aah,hg,hfr⟩:=IY (P:=P) (w:=w) t ty E' i z n' by' hu hi hz hsz hby hzs M5 p b m cap us q2 (q4 b rfl) (by omega) (by omega) (by grind);obtain⟨G',g1,g2,g3⟩:=h.ajZ (len:=0) (v:= .slice none 0 0) (xs:=[]) hlk hqp k5.symm k3 q1 ⟨by simp, .inl ⟨rfl,rfl⟩⟩ (by simpa using aah) hg (.inr hfr);refine⟨r,w',G',s_,?_⟩;grind [R.put,Ab,Ae]
    rw [hid]at k5;have main: ∀ r w',(Builtin.append_ #[t,t] ty #[u', .slice ad m cap]).run P w= .ok r w'->w'.ownsRow 0 E' n' r (len+m) (xs++us)->w.grownBy w' u'.ownBlock->(r.ownBlock=u'.ownBlock\/ ∀ b,r.ownBlock=some b->w.heap.size<=b)->
     ∃ r w' G',(Builtin.append_ #[t,t] ty #[u', .slice ad m cap]).run P w= .ok r w'/\R F ((st.new ⟨id,some (E',n',len+m),e.cs++cs,e.pu&&q⟩).put (some d) (.c (.j_ id))) (a.put (some d) r) w' G':=by
     intro r w' s_ aah hg hfr;obtain⟨G',g1,g2,g3⟩:=h.ajZ hlk hqp k5 k3 q1 k4 aah hg hfr;exact⟨r,w',G',s_,g1.put (by grind [Ab,Ae])⟩
    cases ad with
    | some b=>
      obtain⟨r,w',s_,aah,hg,hfr⟩:=IX (P:=P) (w:=w) t ty E' i z n' by' hu hi hz hsz hby hzs M5 u' len xs k4 b m cap us q2 (q4 b rfl) (Ai.one q1) aqN aiO;grind
    | none=>
      have hm0:=q3 rfl;subst hm0;have hus:us=[]:=by grind
      subst hus;refine main u' w ?_ (by grind) ⟨rfl,rfl,rfl,le_refl _,fun _ _ _=>rfl⟩ (.inl rfl);have hcap: ∃ bs c,u'= .slice bs len c/\len<=c/\(∀ b,bs=some b->b.spot=none):=by
       rcases k4.2 with ⟨q,q0⟩ | ⟨g,c,cur,q,_,_,q5,_⟩
       all_goals grind
      obtain⟨bs,c,rfl,hc,_⟩:=hcap;cases bs<;>simp [Builtin.append_,run_underlying hu,sizeOf,typeInfo,program,Sem.run,hi,Builtin.lenOf,Builtin.firstCells,hc,storeCells]
   grind
  grind
 grind
theorem iK {P:Program} {F:Fr} {st:St} {a:Act} {w:World} {G:AF} (h:R F st a w G) {d:Nat} {t t' ty:TypeId} {x y:V} {u v:Value} (hx:Ab w G x u) (hy:Ab w G y v) (hs:(UG P st d t x y).1):
 ∃ r w' G',(Builtin.copy_ #[t,t'] ty #[u,v]).run P w= .ok r w'/\R F (UG P st d t x y).2 (a.put (some d) r) w' G':=by
 unfold UG at *;split at hs
 ·rename_i id off len id2 afn abf E abg;split at hs
  ·rename_i e e2 he he2;obtain⟨q1,q2⟩:=hs;obtain⟨hu,inf,hi,hsz⟩:=DQ abg;simp only [Ab,Ae]at hx hy;obtain⟨b,cap,o,hb,rfl,_,ho1,ho⟩:=hx;obtain⟨b2,akK,o2,hb2,rfl,_,_,ho2⟩:=hy;obtain⟨hm2,axT⟩:=Bi he2;obtain⟨aGg,T2,_,_,atn⟩:=(h.store e2 hm2).row (Wi he2) (by rw [axT];exact hb2);obtain⟨vs,k1,k2⟩:=((atn.drop afn).take (Nat.min abf len)).list;have hlx:=k1.length;have hl:((e2.cs.drop afn).take (Nat.min abf len)).length =Nat.min abf len:=by grind
   obtain⟨cur,T',afw,al0,hR⟩:=h.stored he hb (off:=off) k1 (by grind);have hw:w.setRow b (cur.toList.take o++vs++cur.toList.drop (o+vs.length)).toArray =w.setRow b (cur.toList.take off++vs++cur.toList.drop (off+vs.length)).toArray :=by
    by_cases hz:vs.length=0
    ·simp_all
    grind
   have s_:=run_copy_row (P:=P) w t t' ty E b o len cap ⟨b2,o2,none⟩ abf akK cur T' vs hu (by grind) afw (by omega) (fun j v hv=>by have hj:j<vs.length:=(by grind);have e:o2=afn:=(by grind);subst e;have:=k2 j v hv;grind [Addr.add_mid]) (by omega) (Ai.one k1)
   rw [hw]at s_;refine⟨_,_,G,s_,hR.put (d:=some d) ?_⟩;grind [Ab,Ae,goInt]
  grind
 grind
theorem eA {F:Fr} {w:World} {G:AF} {id:Ah} {b:Option Nat} {v:Value} (h:v.oneCell'=true):Ab w (Ci F G id b (some v)) (.c (.j_ id)) v:=by simp [Ab,Ae,Ci,h]
theorem acm {P:Program} {w:World} {t E:TypeId} {i:TypeInfo} {zv:Value} {n len:Nat} {ps:Array (Nat×Value)} {aa5:Array Value} (hu:P.underlying t=some (.slice E)) (hi:P.info? E=some i) (hz:i.zero=some zv)
 (hsz:i.size=n) (h3:0<n) (h4:len*n<=2 ^ 24) (hf:Instr.fill (fun i=>some (i*n,n)) ((Array.range (len*n)).map (zv.cells[· % zv.cells.size]!)) ps.toList=some aa5):
 (Instr.buildSlice t len ps).run P w= .ok (.slice (some ⟨w.heap.size,0,none⟩) len len) (w.alloc (.cells aa5 E)):=by
 have al2: ¬2 ^ 24<len*n:=by omega
 by_cases h0:len=0
 ·simp_all [Array.range_zero',Instr.buildSlice,run_underlying,sizeOf,typeInfo,newRow]
 ·have h1: ¬len*n=0:=by rw [Nat.mul_eq_zero];omega
  have h2:n ≠ 0:=by omega
  simp [Instr.buildSlice,run_underlying hu,sizeOf,typeInfo,hi,hsz,al2,zeroValue,hz,hf,newRow];grind
theorem UH {P:Program} {F:Fr} {st:St} {a:Act} {w:World} {G:AF} (h:R F st a w G) {d:Nat} {t:TypeId} {l c:V} {u v:Value} (hx:Ab w G l u) (hy:Ab w G c v) (hs:(K0 P st d t l c).1):
 ∃ r w' G',(Instr.makeSlice t u v).run P w= .ok r w'/\R F (K0 P st d t l c).2 (a.put (some d) r) w' G':=by
 unfold K0 at *;split at hs
 ·rename_i k1 l k2 c E n by' abg;split at hs
  ·rename_i z hz;obtain⟨h0,h1,h2,h3,h4,h5⟩:=hs;obtain⟨i,zv,hu,hi,hzv,hsz,hby,hzs⟩:=DJ abg;obtain⟨i',zv',hi',acx,hc⟩:=Hr hz;rw [hi]at hi';injection hi' with hi';subst hi';rw [hzv]at acx;injection acx with acx;subst acx;simp only [Ab,Ae]at hx hy;subst hx hy;have hM:maxLen=9223372036854775807:=rfl;have s_:=run_make (P:=P) w t E i zv hu hi hzv k1 k2 l c h0 h1 (by rw [hby,Int.mul_comm];omega) (by omega);have hzr:=L5 (FX (w:=w) (G:=G) hc) (by omega) l.toNat
   rw [hzs]at hzr;have hle:l.toNat*n<=c.toNat*n:=Nat.mul_le_mul_right _ (by omega);have A_:=h.row (d::st.pre) E n l.toNat c.toNat (B7 z l.toNat) (madeCells zv.cells (c.toNat*i.size)) _ hzr (by
    simp only [madeCells,Array.toList_map,Array.toList_range,List.length_map,List.length_range, <-List.map_take,hzs];grind) (by simp [B7,h4]) (by rw [size_madeCells,hsz]) (by omega) (by omega) true (fun _=>UE (UD hc) _)
   exact⟨_,_,_,s_,R.put (d:=some d) A_ (eA rfl)⟩
  grind
 grind
theorem J4 {P:Program} {F:Fr} {st:St} {a:Act} {w:World} {G:AF} (h:R F st a w G) {t E:TypeId} {len n by':Nat} {ps:Array (Nat×Operand)} {z cs:List C} (abg:DR P t=some (E,n,by')) (hz:Nt P E=some z)
 (hf:Jc (fun i=>some (i*n,n)) (B7 z len) ((st.parts true ps.toList).2.map Rb)=some cs) (h1:(st.parts true ps.toList).1) (h2:z.length=n) (h3:0<n) (h4:len*n<=2 ^ 24):
 ∃ aa5,(Instr.buildSlice t len (ps.map fun(i,x)=>(i,a.eval x))).run P w= .ok (.slice (some ⟨w.heap.size,0,none⟩) len len) (w.alloc (.cells aa5 E))/\Ai w G cs aa5.toList/\cs.length=len*n/\aa5.size=len*n/\len<=maxLen:=by
 obtain⟨i,zv,hu,hi,hzv,hsz,hby,hzs⟩:=DJ abg;obtain⟨i',zv',hi',acx,hc⟩:=Hr hz;rw [hi]at hi';injection hi' with hi';subst hi';rw [hzv]at acx;injection acx with acx;subst acx;have hzr:=L5 (FX (w:=w) (G:=G) hc) (by omega) len;obtain⟨aa5,q1,q2⟩:=J3 hf (O4 (h.parts rfl h1)) hzr;have q1':Instr.fill (fun i=>some (i*n,n)) ((Array.range (len*n)).map (zv.cells[· % zv.cells.size]!)) (ps.map fun(i,x)=>(i,a.eval x)).toList =some aa5:=by simp_all
 have v_:aa5.size=len*n:=by
  have e1:=q2.length;have e2:cs.length=(B7 z len).length :=by
   clear hzr q1 q1' q2 e1;have hz': ∀ (l:List (Nat×V)) (b out:List C),Jc (fun i=>some (i*n,n)) b l=some out->out.length=b.length:=by
    intro l;induction l with
    | nil=>grind [Jc]
    | cons p l ih=>
      grind [Jc]
   grind
  grind [B7]
 have hcl:cs.length=len*n:=by have:=q2.length;grind
 have hM:maxLen=9223372036854775807:=rfl;have hlen:len<=maxLen:=by have:len*1<=len*n:=Nat.mul_le_mul_left _ h3;omega
 grind [acm]
theorem K1 {P:Program} {F:Fr} {st:St} {a:Act} {w:World} {G:AF} (h:R F st a w G) {d:Nat} {t:TypeId} {len:Nat} {ps:Array (Nat×Operand)} (hs:(Bf P st d t len ps.toList).1):
 ∃ r w' G',(Instr.buildSlice t len (ps.map fun(i,x)=>(i,a.eval x))).run P w= .ok r w'/\R F (Bf P st d t len ps.toList).2 (a.put (some d) r) w' G':=by
 unfold Bf at *;split at hs
 ·rename_i E n by' abg;split at hs
  ·rename_i z hz;split at hs
   ·rename_i cs hf;obtain⟨h1,h2,h3,h4⟩:=hs;obtain⟨aa5,q1,q2,hcl,v_,hlen⟩:=J4 h abg hz hf h1 h2 h3 h4;exact⟨_,_,_,q1,R.put (d:=some d) (h.row (d::st.pre) E n len len cs aa5 aa5.toList q2 (by grind) hcl v_ (le_refl _) hlen (Am cs) id) (eA rfl)⟩
   grind
  grind
 grind
theorem Rf {P:Program} {F:Fr} {st:St} {a:Act} {w:World} {G:AF} (h:R F st a w G) {o:Oper} (hs:(ef P st o).1):Eff P F o a w (ef P st o).2:=by
 obtain⟨dst,op,ty,pos,aft,gd⟩:=o;cases op<;>cases dst<;>simp only [ef]at hs ⊢ <;>try (exact hs.elim)
 case store.none T x y=>
  obtain⟨w',h1,h2⟩:=Re h (h.arg rfl hs.1) (iH (iI (h.arg rfl hs.2.1))) hs.2.2;exact⟨.skip,w',G,by simp [execOp,h1], .inr ⟨rfl,h2⟩⟩
 case store.some T x y d=>
  obtain⟨w',h1,h2⟩:=Re h (h.arg rfl hs.1) (iH (iI (h.arg rfl hs.2.1))) hs.2.2;exact⟨.skip,w',G,by simp [execOp,h1], .inr ⟨rfl,(by grind [R.put,Ab])⟩⟩
 case alloc.some T d=>
  split at hs
  ·rename_i cs hz;obtain⟨i,z,hi,hzv,hc⟩:=Qd hz;have hb:=h.box (d::st.pre) T cs z.cells (KZ hc) false (fun q=>by cases q);refine⟨.value (.pointer (some ⟨w.heap.size,0,none⟩)),_,_,?_, .inl ⟨_,rfl,R.put (d:=some d) hb (by simp [Ab,Ae,Ci])⟩⟩;simp_all [execOp,Instr.alloc,adU,newVar,newRow]
  grind
 case box.some T x d=>
  split at hs
  ·rename_i cs hc;have hv:=J0 (h.arg rfl hs.1) hc;have hb:=h.box (d::st.pre) T cs (a.eval x).cells hv false (fun q=>by cases q);refine⟨.value (.pointer (some ⟨w.heap.size,0,none⟩)),_,_,?_, .inl ⟨_,rfl,R.put (d:=some d) hb (by simp [Ab,Ae,Ci])⟩⟩;simp [execOp,Instr.box,newVar,newRow]
  grind
 case assign.some x d=>
  split at hs
  all_goals first
   | (rename_i q;cases q;done)
   | (rename_i q
      cases q
      split at hs
      ·rename_i E n hE;have hb:=h.akp (d::st.pre) E n;exact⟨.value (.slice none 0 0),w,_,by simp [execOp,Act.eval], .inl ⟨_,rfl,R.put (d:=some d) hb (eA rfl)⟩⟩
      grind)
   | grind
 case buildSlice.some t len ps d=>
  obtain⟨r,w',G',q1,q2⟩:=K1 (d:=d) h hs;exact⟨.value r,w',G',by simp [execOp,q1], .inl ⟨r,rfl,q2⟩⟩
 case makeSlice.some t l c d=>
  obtain⟨r,w',G',q1,q2⟩:=UH (d:=d) h (h.arg rfl hs.1) (h.arg rfl hs.2.1) hs.2.2;exact⟨.value r,w',G',by simp [execOp,q1], .inl ⟨r,rfl,q2⟩⟩
 case call.some c d=>
  split at hs
  ·rename_i s x t t' h1 h2 h3;obtain⟨q1,q2,q3,q4⟩:=hs;subst q3;have ea:c.args= #[s,x]:=by grind
   have et:c.argTypes= #[t,t]:=by grind
   obtain⟨r,w',G',k1,k2⟩:=Z7 (d:=d) (ty:=ty) h (h.arg rfl q1) (h.arg rfl q2) q4;exact⟨.value r,w',G',by simp_all [execOp,resolve,invoke,builtin], .inl ⟨r,rfl,k2⟩⟩
  ·rename_i s x t t' h1 h2 h3;obtain⟨q1,q2,_,q4⟩:=hs;have ea:c.args= #[s,x]:=by grind
   have et:c.argTypes= #[t,t']:=by grind
   obtain⟨r,w',G',k1,k2⟩:=iK (d:=d) (t':=t') (ty:=ty) h (h.arg rfl q1) (h.arg rfl q2) q4;exact⟨.value r,w',G',by simp_all [execOp,resolve,invoke,builtin], .inl ⟨r,rfl,k2⟩⟩
  grind
end Go.PL
namespace Go.PL
open Go Go.RowKit
def ent (P:Program) (f:FuncId):Bool:=
 match P.funcs[f]? with
 | some fn=> !(fn.name== "runtime.NumGoroutine")&&fn.body.isSome
 | none=>false
structure BV (P:Program) (I:World->Prop) (f:FuncId) (args:List V) (Q:V->Prop):Prop where
 ent:ent P f=true
 run: ∀ (w:World) (vs:Array Value) (av:Nat->Prop),I w->(∀ b,av b->b<w.heap.size)->As w (im av) args vs.toList->
  Calls P f vs w (fun e w'=> ∃ v r,e= .returned v/\Q r/\r.pure=true/\Ab w' (im av) r v/\Below w.heap.size w w')
theorem ab4 {P:Program} {f:FuncId} (h:ent P f=true) (args:Array Value) (w:World):(callFunc f args).run P w= .ok (.enter f args) w:=by
 unfold ent at h;split at h
 ·rename_i fn hf;simp only [and_eq_true,not_eq_true']at h;have h2: ¬fn.body=none:=by grind
  simp_all [callFunc]
 ·cases h
mutual
def V.flat:V->Bool
 | .c x=>x.flat
 | .agg cs=>cs.all C.flat
 | .tup vs=>LD vs
 | _=>false
def LD:List V->Bool
 | []=>true
 | v::vs=>v.flat&&LD vs
end
mutual
def iL:V->Value
 | .c x=>Jh x
 | .agg cs=> .agg (cs.map Jh).toArray
 | .tup vs=> .tuple (iM vs).toArray
 | _=>Go.undef
def iM:List V->List Value
 | []=>[]
 | v::vs=>iL v::iM vs
end
theorem SS {w:World} {G:AF}: ∀ {cs:List C} {vs:List Value},cs.all C.flat=true->(Ai w G cs vs↔vs=cs.map Jh)
 | [],[],_=>by simp [Ai]
 | [],_::_,_=>by simp [Ai]
 | _::_,[],_=>by simp [Ai]
 | c::cs,v::vs,h=>by simp only [List.all_cons,and_eq_true]at h;simp only [Ai,map_cons,List.cons.injEq,AY h.1,SS h.2]
mutual
theorem Gm {w:World} {G:AF}: ∀ {x:V} {v:Value},x.flat=true->(Ab w G x v↔v=iL x)
 | .c x,v,h=>by grind [Ab,iL,AY,V.flat]
 | .agg cs,v,h=>by
   simp only [Ab,iL];constructor
   ·rintro⟨arr,rfl,hr⟩;rw [SS (by simpa only [V.flat] using h)]at hr;rw [<-hr]
   grind [SS,V.flat]
 | .tup vs,v,h=>by
   simp only [Ab,iL];constructor
   ·rintro⟨arr,rfl,hr⟩;rw [MM (by simpa only [V.flat] using h)]at hr;rw [<-hr]
   ·intro e;exact⟨_,e,by rw [MM (by simpa only [V.flat] using h)]⟩
 | .g _ _,_,h=>by simp [V.flat]at h
 | .undef,_,h=>by simp [V.flat]at h
theorem MM {w:World} {G:AF}: ∀ {xs:List V} {vs:List Value},LD xs=true->(As w G xs vs↔vs=iM xs)
 | [],vs,_=>by simp only [As,iM]
 | x::xs,vs,h=>by
   simp only [LD,and_eq_true]at h;simp only [As,iM];constructor
   ·rintro⟨v,r,rfl,h1,h2⟩;rw [(Gm h.1).1 h1,(MM h.2).1 h2]
   ·intro e;exact⟨_,_,e,(Gm h.1).2 rfl,(MM h.2).2 rfl⟩
end
def K2 (st:St):C->C
 | .j_ id=>match st.look id with
   | some e=>match e.row with
     | some (_,_,len)=>if e.pu then .sl len e.cs else .any
     | none=> .any
   | none=> .any
 | .L_ => .sl 0 []
 | c=>c
def BF (st:St):V->V
 | .c x=> .c (K2 st x)
 | .agg cs=> .agg (cs.map (K2 st))
 | v=>v
def Rh:C->List Ah
 | .j_ id=>[id]
 | _=>[]
def tz:V->List Ah
 | .c x=>Rh x
 | .agg cs=>cs.flatMap Rh
 | _=>[]
theorem bU {F:Fr} {st:St} {a:Act} {w:World} {G:AF} (h:R F st a w G) {av:Nat->Prop} (hav: ∀ b,b<w.heap.size->av b->G.wr b) {c:C} {v:Value} (hid: ∀ id∈Rh c,st.ab9 id=true-> ∀ b,G.o_ id=some b-> ¬av b)
 (hp:(K2 st c).pure =true) (hr:Ae w G c v):Ae w (im av) (K2 st c) v:=by
 cases c with
 | j_ id=>
   simp only [K2]at hp ⊢;split at hp
   ·rename_i e he;split at hp
    ·rename_i E n len A_;split
     rotate_left
     ·grind [Ae]
     rename_i hpu;have hpl:Am e.cs=true:=h.y_ e (Bi he).1 hpu;have hok:st.ab9 id=true:=by grind [St.ab9]
     have hf:=(h.frz he A_ hpl).own v (by grind [Ae]);simp only [Ae]at hf ⊢;obtain⟨hpp,ad,cap,q1,q2,q3,q4,q5⟩:=hf;refine⟨hpp,ad,cap,q1,q2,q3,q4,?_⟩;rcases q5 with q5 | ⟨b,o,rfl,k1,k2,k3⟩
     ·grind
     ·by_cases hz:len=0
      ·grind
      refine .inr ⟨b,o,rfl,?_,k2,?_⟩
      ·have hb:G.o_ id=some b:=by obtain⟨hm,aE_⟩:=Bi he;have hE:=h.store e hm;grind [Ba,Ae]
       exact hid id (by simp [Rh]) hok b hb
      ·exact Al.mono (G:=Ci F G id none none) (G':=im av) ⟨le_refl _,fun _ _ _=>rfl,fun b' hb' hw=>by
        have:=hav b' hb' hw;rw [h.wr]at this;simp only [Ci];rcases this with q | ⟨i,q⟩
        ·exact .inl q
        ·by_cases hi:i=id
         ·subst hi;exact absurd hw (hid i (by simp [Rh]) hok b' q)
         grind,fun _ _ _ _=>Co.same rfl⟩ _ _ _ (fun i hi=>by have:BU i e.cs=true:=hi;rw [AQ i e.cs hpl]at this;cases this) (fun _=>rfl) k3
    grind [Ae]
   grind [Ae]
 | L_=>
   simp only [Ae]at hr;subst hr;simp only [K2,Ae];exact⟨rfl,none,0,rfl,le_refl _,zero_le _,fun _=>trivial, .inl trivial⟩
 | _=>
   first
    | exact Ae.mono (G:=G) (G':=im av) ⟨le_refl _,fun _ _ _=>rfl,fun b hb hw=>hav b hb hw,fun _ _ _ _=>Co.same rfl⟩ _ _ (fun i hi=>absurd (show (K2 st _).p_ i=true from hi) (by rw [Im i _ hp];simp)) hr
theorem bV {F:Fr} {st:St} {a:Act} {w:World} {G:AF} (h:R F st a w G) {av:Nat->Prop} (hav: ∀ b,b<w.heap.size->av b->G.wr b): ∀ {cs:List C} {vs:List Value},(∀ id∈cs.flatMap Rh,st.ab9 id=true-> ∀ b,G.o_ id=some b-> ¬av b)->
 Am (cs.map (K2 st))=true->Ai w G cs vs->Ai w (im av) (cs.map (K2 st)) vs
 | [],[],_,_,_=>by simp [Ai]
 | [],_::_,_,_,h=>by simp [Ai]at h
 | _::_,[],_,_,h=>by simp [Ai]at h
 | c::cs,v::vs,hid,hp,hr=>by simp only [Ai]at hr;simp only [map_cons,Am,and_eq_true]at hp;simp only [map_cons,Ai];exact⟨bU h hav (fun id hi=>hid id (by simp [hi])) hp.1 hr.1,bV h hav (fun id hi=>hid id (by simp only [flatMap_cons,List.mem_append];exact .inr hi)) hp.2 hr.2⟩
theorem bW {F:Fr} {st:St} {a:Act} {w:World} {G:AF} (h:R F st a w G) {av:Nat->Prop} (hav: ∀ b,b<w.heap.size->av b->G.wr b) {x:V} {v:Value} (hid: ∀ id∈tz x,st.ab9 id=true-> ∀ b,G.o_ id=some b-> ¬av b)
 (hp:(BF st x).pure =true) (hr:Ab w G x v):Ab w (im av) (BF st x) v:=by
 cases x with
 | c x=>simp only [BF,Ab]at hr ⊢;exact bU h hav hid (by grind [BF,V.pure]) hr
 | agg cs=>
   simp only [BF,Ab]at hr ⊢;obtain⟨arr,e,hr⟩:=hr;exact⟨arr,e,bV h hav hid (by grind [BF,V.pure]) hr⟩
 | tup vs=>exact o9 hav hp hr
 | g b v'=>exact o9 hav hp hr
 | undef=>simp only [BF,Ab]
def C7 (xs:List V):List Ah:=xs.flatMap tz
theorem Ht {F:Fr} {st:St} {a:Act} {w:World} {G:AF} (h:R F st a w G) {av:Nat->Prop} (hav: ∀ b,b<w.heap.size->av b->G.wr b): ∀ {xs:List V} {vs:List Value},(∀ id∈C7 xs,st.ab9 id=true-> ∀ b,G.o_ id=some b-> ¬av b)->
 Cq (xs.map (BF st))=true->As w G xs vs->As w (im av) (xs.map (BF st)) vs
 | [],_,_,_,h=>by simpa [As] using h
 | x::xs,vs,hid,hp,hr=>by
   simp only [As]at hr;obtain⟨v,r,rfl,h1,h2⟩:=hr;simp only [map_cons,Cq,and_eq_true]at hp;simp only [map_cons,As];exact⟨v,r,rfl,(by grind [bW,C7]),
    Ht h hav (fun id hi=>hid id (by simp only [C7,flatMap_cons,List.mem_append];exact .inr hi)) hp.2 h2⟩
def St.after (st:St) (ids:List Ah) (d:Option Nat) (r:V):St:=
 if r.flat then st.put d r else match ids with
  | []=>st.put d r
  | id::_=>(st.freeze id).put d r
theorem Et {B:Nat} {w w':World} (h:Below B w w'):N3 w w':=⟨h.os,h.tape,h.output⟩
theorem FY {w w':World} (h:Below w.heap.size w w'):C6 w w':=⟨h.size,fun b hb=>h.block b hb⟩
theorem R.aiu {F:Fr} {st:St} {a:Act} {w:World} {G:AF} (h:R F st a w G) {b:Nat} (hb:G.wr b):b<w.heap.size:=by
 rw [h.wr]at hb;rcases hb with q | ⟨i,q⟩
 ·exact lt_of_lt_of_le (h.aaJ b q) h.v_
 ·exact h.lt i b q
theorem R.called {F:Fr} {st:St} {a:Act} {w:World} {G:AF} (h:R F st a w G) {P:Program} {f:FuncId} {xs:List V} {us:Array Value} {Q:V->Prop} (hc:BV P F.I f (xs.map (BF st)) Q)
 (hp:Cq (xs.map (BF st))=true) (hx:As w G xs us.toList) (d:Option Nat) (hfl: ∀ r,Q r->(r.flat=true\/(C7 xs).length <=1/\ ∀ id∈C7 xs,st.ab9 id=true)):
 Calls P f us w (fun e w'=> ∃ v r G',e= .returned v/\Q r/\R F (st.after (C7 xs) d r) (a.put d v) w' G'):=by
 have hI:F.I w:=h.inv w h.v_ h.ext;by_cases Tg:C7 xs=[]
 ·have h1:=Ht h (av:=fun b=>G.wr b) (fun _ _ q=>q) (by grind) hp hx;refine(hc.run w us (fun b=>G.wr b) hI (fun b hb=>h.aiu hb) h1).mono fun e w' ⟨v,r,he,hq,hpr,hr,hb⟩=>?_;refine⟨v,r,G,he,hq,?_⟩;have h2:=(h.same (Et hb) (FY hb)).put (d:=d) (WO (G:=G) (fun _ _ q=>q) hpr hr);grind [St.after]
 ·
  have hav: ∀ b,b<w.heap.size->(G.wr b/\ ∀ id∈C7 xs,G.o_ id ≠ some b)->G.wr b:=fun _ _ q=>q.1;have h1:=Ht h (av:=fun b=>G.wr b/\ ∀ id∈C7 xs,G.o_ id ≠ some b) hav (fun id hi _ b hb hw=>hw.2 id hi hb) hp hx;refine(hc.run w us _ hI (fun b hb=>h.aiu hb.1) h1).mono fun e w' ⟨v,r,he,hq,hpr,hr,hb⟩=>?_;by_cases hf:r.flat=true
  ·refine⟨v,r,G,he,hq,?_⟩;have h2:=(h.same (Et hb) (FY hb)).put (d:=d) ((Gm (w:=w') (G:=G) hf).2 ((Gm hf).1 hr));simp_all [St.after]
  ·rcases hfl r hq with q | ⟨q1,q2⟩
   ·grind
   ·obtain⟨id,hid⟩: ∃ id,C7 xs=[id]:=by
     match hh:C7 xs,q1,Tg with
     | [],_,Tg=>grind
     | [id],_,_=>grind
    obtain⟨G',g1,g2,g3⟩:=h.freeze id;refine⟨v,r,G',he,hq,?_⟩;have g4:=g1.same (Et hb) (FY hb);have hr':Ab w' G' r v:=(by grind [WO]);unfold St.after;rw [if_neg hf,hid];exact g4.put hr'
end Go.PL
namespace Go.PL
open Go Go.RowKit
def ceq:C->C->Bool
 | .int _ a, .int _ b=>a==b
 | .bool a, .bool b=>a==b
 | .str a, .str b=>a==b
 | _,_=>false
def B0:List C->List C->Bool
 | [],[]=>true
 | c::cs,d::ds=>ceq c d&&B0 cs ds
 | _,_=>false
theorem N6: ∀ {a b c d:List C},a.length=b.length->B0 (a++c) (b++d)=(B0 a b&&B0 c d)
 | [],[],c,d,_=>by simp [B0]
 | x::a,y::b,c,d,h=>by simp only [cons_append,B0,N6 (a:=a) (b:=b) (by simpa using h),Bool.and_assoc]
 | [],_::_,_,_,h=>by simp at h
 | _::_,[],_,_,h=>by simp at h
def qV (P:Program) (R:TypeId->List C->Bool) (cs:List C):Nat->List Field->Bool
 | o,[]=>o==cs.length
 | o,f::fs=>f.name != "_" &&f.offset==o&&(match KS P f.type with
   | some (ag,n)=>(ag||n==1)&&Nat.ble (o+n) cs.length&&R f.type ((cs.drop o).take n)&&qV P R cs (o+n) fs
   | none=>false)
def VK (P:Program):Nat->TypeId->List C->Bool
 | 0,_,_=>false
 | n+1,t,cs=>match P.underlying t with
   | some .bool =>match cs with
     | [.bool _]=>true
     | _=>false
   | some (.int k)=>match cs with
     | [.int k' _]=>k==k'
     | _=>false
   | some .string =>match cs with
     | [.str _]=>true
     | _=>false
   | some (.struct fs)=> !P.stoodInHeld t&&qV P (VK P n) cs 0 fs.toList
   | some (.array m e)=>match KS P e with
     | some (ag,k)=>(ag||k==1)&&cs.length==m*k&&(List.range m).all fun i=>VK P n e ((cs.drop (i*k)).take k)
     | none=>false
   | _=>false
def mu (P:Program) (t:TypeId):Bool:=match P.underlying t with
 | some d=>d.isRow
 | none=>false
def xC (ag:Bool) (cs:List C):V:=if ag then .agg cs else .c (cs.getD 0 .any)
theorem Wj {ag:Bool} {o n:Nat} {cs:List C} (h0:ag=true\/n=1) (hn:o+n<=cs.length):toV ag o n cs=xC ag ((cs.drop o).take n):=by unfold toV xC;grind
section
variable {P:Program} {w:World} {G:AF}
def Abo (P:Program) (w:World) (G:AF) (d n:Nat) (t:TypeId):Prop:=
 ∀ (cs ds:List C) (x y:Value),VK P n t cs=true->VK P n t ds=true->Ab w G (xC (mu P t) cs) x->Ab w G (xC (mu P t) ds) y-> ∀ w',(Op.equalIn d t x y).run P w'= .ok (B0 cs ds) w'
theorem Wl {t:TypeId} {ag:Bool} {n:Nat} (h:KS P t=some (ag,n)):mu P t=ag:=by grind [Dc,mu]
theorem UI {d n:Nat} (ih: ∀ t,Abo P w G d n t) {cs ds:List C} {xs ys:Array Value} (hx:Ai w G cs xs.toList) (hy:Ai w G ds ys.toList): ∀ (fs:List Field) (o:Nat),qV P (VK P n) cs o fs=true->qV P (VK P n) ds o fs=true->
 ∀ w',(Op.eqFields d xs ys fs).run P w'= .ok (B0 (cs.drop o) (ds.drop o)) w'
 | [],o,h1,h2,w'=>by
   simp only [qV,beq_iff_eq]at h1 h2;have e1:cs.drop o=[]:=by grind
   have e2:ds.drop o=[]:=by grind
   rw [e1,e2];simp [Op.eqFields,B0]
 | f::fs,o,h1,h2,w'=>by
   simp only [qV,and_eq_true,bne_iff_ne,ne_eq,beq_iff_eq]at h1 h2;obtain⟨⟨hn,ho⟩,h1⟩:=h1;obtain⟨_,h2⟩:=h2;cases ht:KS P f.type with
   | none=>grind
   | some p=>
     obtain⟨ag,k⟩:=p;rw [ht]at h1 h2;simp only [and_eq_true,Bool.or_eq_true,beq_iff_eq,Nat.ble_eq]at h1 h2;obtain⟨⟨⟨h0,l1⟩,r1⟩,q1⟩:=h1;obtain⟨⟨⟨_,l2⟩,r2⟩,q2⟩:=h2;obtain⟨a,ra,pa⟩:=acA ht hx l1 (by grind);obtain⟨b,rb,pb⟩:=acA ht hy l2 (by grind);rw [Wj h0 l1, <-Wl ht]at ra;rw [Wj h0 l2, <-Wl ht]at rb;have he:=ih f.type _ _ a b r1 r2 ra rb w';have aih:=UI ih hx hy fs (o+k) q1 q2 w';have aki:cs.drop o=(cs.drop o).take k++cs.drop (o+k):=by rw [<-drop_drop,take_append_drop]
     have akh:ds.drop o=(ds.drop o).take k++ds.drop (o+k):=by rw [<-drop_drop,take_append_drop]
     rw [aki,akh,N6 (by simp;omega)];simp only [Op.eqFields,hn,ne_eq,not_false_eq_true,if_true,Sem.run_bind,ho,pa,pb,he,Result.andThen_ok];cases B0 ((cs.drop o).take k) ((ds.drop o).take k)
     ·simp
     grind
theorem WS {d n:Nat} {e:TypeId} (ih:Abo P w G d n e) {cs ds:List C} {xs ys:Array Value} {ag:Bool} {k:Nat} (ht:KS P e=some (ag,k)) (h0:ag=true\/k=1) (hx:Ai w G cs xs.toList) (hy:Ai w G ds ys.toList): ∀ (m o:Nat),cs.length=(o+m)*k->ds.length=(o+m)*k->
 (∀ i,i<o+m->VK P n e ((cs.drop (i*k)).take k)=true)->(∀ i,i<o+m->VK P n e ((ds.drop (i*k)).take k)=true)->
 ∀ w',(Op.eqItems d e k xs ys ((List.range m).map (o+ ·))).run P w'= .ok (B0 (cs.drop (o*k)) (ds.drop (o*k))) w'
 | 0,o,l1,l2,_,_,w'=>by
   have e1:cs.drop (o*k)=[]:=by grind
   have e2:ds.drop (o*k)=[]:=by grind
   rw [e1,e2];simp [Op.eqItems,B0]
 | m+1,o,l1,l2,a1,a2,w'=>by
   have hk:(o+(m+1))*k=o*k+k+m*k:=by grind
   have b1:o*k+k<=cs.length:=by grind
   have b2:o*k+k<=ds.length:=by grind
   obtain⟨a,ra,pa⟩:=acA ht hx b1 (h0.imp id (fun h=>by omega));obtain⟨b,rb,pb⟩:=acA ht hy b2 (h0.imp id (fun h=>by omega));rw [Wj h0 b1, <-Wl ht]at ra;rw [Wj h0 b2, <-Wl ht]at rb;have he:=ih _ _ a b (a1 o (by omega)) (a2 o (by omega)) ra rb w';have aih:=WS ih ht h0 hx hy m (o+1) (by grind) (by grind) (by grind) (by grind) w';have hl:(List.range (m+1)).map (o+ ·)=o::(List.range m).map (o+1+ ·):=by rw [List.range_succ_eq_map,map_cons,map_map];simp only [add_zero,List.cons.injEq,true_and];apply List.map_congr_left;grind
   have e1:(o+1)*k=o*k+k:=by grind
   rw [e1]at aih;have aki:cs.drop (o*k)=(cs.drop (o*k)).take k++cs.drop (o*k+k):=by rw [<-drop_drop,take_append_drop]
   have akh:ds.drop (o*k)=(ds.drop (o*k)).take k++ds.drop (o*k+k):=by rw [<-drop_drop,take_append_drop]
   rw [aki,akh,N6 (by simp;omega),hl];simp only [Op.eqItems,Sem.run_bind,pa,pb,he,Result.andThen_ok];cases B0 ((cs.drop (o*k)).take k) ((ds.drop (o*k)).take k)
   ·simp
   grind
theorem eC: ∀ (n d:Nat) (t:TypeId),Abo P w G (d+n) n t
 | 0,_,_,_,_,_,_,h,_,_,_,_=>by simp [VK]at h
 | n+1,d,t,cs,ds,x,y,h1,h2,hx,hy,w'=>by
   unfold VK at h1 h2;cases hu:P.underlying t with
   | none=>grind
   | some kd=>
     rw [hu]at h1 h2;have hr:mu P t=kd.isRow:=by unfold mu;rw [hu]
     rw [hr]at hx hy;cases kd<;>simp only at h1 h2<;>try (cases h1;done)
     case bool=>
      split at h1<;>try (cases h1;done)
      split at h2<;>try (cases h2;done)
      simp only [xC,Ab,Ae,getD_cons_zero,TypeDesc.isRow,false_eq_true,if_false]at hx hy;subst hx hy;rw [show d+(n+1)=(d+n)+1 from rfl,run_equalIn_bool' w' (d+n) t _ _ hu];simp [B0,ceq]
     case int k=>
      split at h1<;>try (cases h1;done)
      split at h2<;>try (cases h2;done)
      simp only [beq_iff_eq]at h1 h2;subst h1;simp only [xC,Ab,Ae,getD_cons_zero,TypeDesc.isRow,false_eq_true,if_false]at hx hy;subst hx hy h2;rw [show d+(n+1)=(d+n)+1 from rfl,run_equalIn_int w' (d+n) t _ _ _ _ hu];simp [B0,ceq]
     case string=>
      split at h1<;>try (cases h1;done)
      split at h2<;>try (cases h2;done)
      simp only [xC,Ab,Ae,getD_cons_zero,TypeDesc.isRow,false_eq_true,if_false]at hx hy;subst hx hy;rw [show d+(n+1)=(d+n)+1 from rfl,run_equalIn_string w' (d+n) t _ _ hu];simp [B0,ceq,ByteArray.toList_eq]
     case struct fs=>
      simp only [and_eq_true,not_eq_true']at h1 h2;simp only [xC,TypeDesc.isRow,if_true,Ab]at hx hy;obtain⟨xs,rfl,hx⟩:=hx;obtain⟨ys,rfl,hy⟩:=hy;have hfs:P.fieldsOf t=fs:=by simp [Program.fieldsOf,hu]
      rw [show d+(n+1)=(d+n)+1 from rfl,run_equalIn_struct w' (d+n) t xs ys (by rw [hfs];exact hu) h1.1,hfs];have:=UI (fun t=>eC n d t) hx hy fs.toList 0 h1.2 h2.2 w';grind
     case array m e=>
      cases ht:KS P e with
      | none=>grind
      | some p=>
        obtain⟨ag,k⟩:=p;rw [ht]at h1 h2;simp only [and_eq_true,Bool.or_eq_true,beq_iff_eq,List.all_eq_true,List.mem_range]at h1 h2;simp only [xC,TypeDesc.isRow,if_true,Ab]at hx hy;obtain⟨xs,rfl,hx⟩:=hx;obtain⟨ys,rfl,hy⟩:=hy;obtain⟨dd,i,_,_,hi,hsz⟩:=Dc ht;have hc:P.cellsOf e=k:=by grind [Program.cellsOf]
        rw [show d+(n+1)=(d+n)+1 from rfl,run_equalIn_array w' (d+n) xs ys hu hi];have:=WS (eC n d e) ht h1.1.1 hx hy m 0 (by grind) (by grind) (by grind) (by grind) w';simp_all
def mv (P:Program) (t:TypeId) (cs ds:List C):Bool:= !P.eqGuardType P.depth t&&mu P t&&VK P 40 t cs&&VK P 40 t ds
def iN (P:Program) (op:BinOp) (t:TypeId) (cs ds:List C):Prop×V:=
 match op with
 | .eql =>(mv P t cs ds=true, .c (.bool (B0 cs ds)))
 | .neq =>(mv P t cs ds=true, .c (.bool !(B0 cs ds)))
 | _=>no
theorem mw {op:BinOp} {t:TypeId} {cs ds:List C} {u v:Value} {ox oy:Operand} (hx:Ab w G (.agg cs) u) (hy:Ab w G (.agg ds) v) (hs:(iN P op t cs ds).1):
 ∃ r,Ab w G (iN P op t cs ds).2 r/\ ∀ w',(do eqGuard op t ox oy u v;binOp op t u v).run P w'= .ok r w':=by
 have key:mv P t cs ds=true-> ∃ xs ys,u= .agg xs/\v= .agg ys/\(∀ w',(eqGuard op t ox oy u v).run P w'= .ok () w')/\ ∀ w',(Op.equalIn 10000 t u v).run P w'= .ok (B0 cs ds) w':=by intro h;simp only [mv,and_eq_true,not_eq_true']at h;have hx':=hx;have hy':=hy;simp only [Ab]at hx' hy';obtain⟨xs,rfl,_⟩:=hx';obtain⟨ys,rfl,_⟩:=hy';refine⟨xs,ys,rfl,rfl,(by grind [run_eqGuard_agg]),fun w'=>?_⟩;exact eC (P:=P) (w:=w) (G:=G) 40 9960 t cs ds _ _ h.1.2 h.2 (by rw [h.1.1.2];exact hx) (by rw [h.1.1.2];exact hy) w'
 unfold iN at *;split at hs
 ·obtain⟨xs,ys,rfl,rfl,h1,h2⟩:=key hs;exact⟨_,(AY rfl).2 rfl,fun w'=>by simp only [Sem.run_bind,h1,Result.andThen_ok,run_eql_struct,h2];rfl⟩
 ·obtain⟨xs,ys,rfl,rfl,h1,h2⟩:=key hs;exact⟨_,(AY rfl).2 rfl,fun w'=>by simp only [Sem.run_bind,h1,Result.andThen_ok,run_neq_struct,h2];rfl⟩
 grind
end
def qW:List C->Bool
 | []=>true
 | .int _ _::cs=>qW cs
 | .bool _::cs=>qW cs
 | .str _::cs=>qW cs
 | _::_=>false
theorem bX: ∀ {cs:List C},qW cs=true->B0 cs cs=true
 | [],_=>rfl
 | c::cs,h=>by cases c<;>simp only [qW]at h<;>first | (cases h;done) | simp_all [B0,ceq,bX]
def kinds:List C->List (Option IntKind)
 | []=>[]
 | .int k _::cs=>some k::kinds cs
 | _::cs=>none::kinds cs
theorem Wm: ∀ {cs ds:List C},kinds cs=kinds ds->B0 cs ds=true->cs=ds
 | [],[],_,_=>rfl
 | [],_::_,_,h=>by simp [B0]at h
 | _::_,[],_,h=>by simp [B0]at h
 | c::cs,d::ds,hk,h=>by
   simp only [B0,and_eq_true]at h;cases c<;>cases d<;>simp only [ceq,false_eq_true,false_and]at h
   ·simp only [kinds,List.cons.injEq,injEq]at hk;rw [beq_iff_eq.1 h.1,hk.1,Wm hk.2 h.2]
   ·simp only [kinds,List.cons.injEq,true_and]at hk;rw [beq_iff_eq.1 h.1,Wm hk h.2]
   ·simp only [kinds,List.cons.injEq,true_and]at hk;rw [beq_iff_eq.1 h.1,Wm hk h.2]
theorem Eu {α:Type} [DecidableEq α] (enc:α->List C) (tp:List C->α) (hd: ∀ a,tp (enc a)=a) (hs: ∀ a,qW (enc a)=true) (hk: ∀ a b,kinds (enc a)=kinds (enc b)) (a b:α):B0 (enc a) (enc b)=(a==b):=by grind [bX,Wm]
def AB:C->Int
 | .int _ n=>n
 | _=>0
def my:C->Bool
 | .bool b=>b
 | _=>false
def mz:C->List UInt8
 | .str s=>s
 | _=>[]
structure B8 (st a_:St):Prop where
 len:a_.tm.length=st.tm.length
 tm: ∀ i,a_.tm.getD i .undef = .undef \/a_.tm.getD i .undef =st.tm.getD i .undef
 so: ∀ e∈a_.so,e∈st.so
 nd:(st.so.map (·.id)).Nodup ->(a_.so.map (·.id)).Nodup
 gh:a_.gh.length=st.gh.length/\ ∀ i,a_.gh.getD i .undef = .undef \/a_.gh.getD i .undef =st.gh.getD i .undef
 pre:a_.pre=st.pre
theorem B8.refl (st:St):B8 st st:=⟨rfl,fun _=> .inr rfl,fun _ h=>h,id,(by grind),rfl⟩
theorem WT {w:World} {G:AF}: ∀ {xs ys:List V} {vs:List Value},ys.length=xs.length->(∀ i,ys.getD i .undef = .undef \/ys.getD i .undef =xs.getD i .undef)->As w G xs vs->As w G ys vs
 | [],[],_,_,_,h=>h
 | x::xs,y::ys,vs,hl,hi,h=>by
   simp only [As]at h ⊢;obtain⟨v,r,e,h1,h2⟩:=h;refine⟨v,r,e,?_,WT (by simpa using hl) (fun i=>by simpa using hi (i+1)) h2⟩;rcases hi 0 with q | q
   ·simp at q;rw [q];simp only [Ab]
   ·simp at q;rw [q];exact h1
 | [],_::_,_,hl,_,_=>by simp at hl
 | _::_,[],_,hl,_,_=>by simp at hl
theorem R.less {F:Fr} {st:St} {a:Act} {w:World} {G:AF} {a_:St} (h:R F st a w G) (hl:B8 st a_):R F a_ a w G:={
 dfr:=h.dfr
 size:=by rw [hl.len];exact h.size
 w_:=fun i=>by
  rcases hl.tm i with q | q
  ·rw [q];simp only [Ab]
  ·rw [q];exact h.w_ i
 I_:=WT hl.gh.1 hl.gh.2 h.I_
 store:=fun e he=>h.store e (hl.so e he)
 deep:=fun e he=>h.deep e (hl.so e he)
 y_:=fun e he=>h.y_ e (hl.so e he)
 nodup:=hl.nd h.nodup
 inj:=h.inj,lt:=h.lt,new:=h.new,wr:=h.wr,aaJ:=h.aaJ,inv:=h.inv,aae:=h.aae,os:=h.os,tape:=h.tape,output:=h.output,v_:=h.v_,ext:=h.ext}
end Go.PL
namespace Go.PL
open Go Go.RowKit
def eD:List V->Option (List C)
 | []=>some []
 | .c x::vs=>match eD vs with
   | some cs=>some (x::cs)
   | none=>none
 | _=>none
def D7 (P:Program) (st:St) (g:Bool) (op:Op):Prop×V:=
 match op with
 | .build t ps=>N5 P st g t ps.toList
 | .binOp op t x y t'=>match (st.arg g x).2,(st.arg g y).2 with
   | .agg cs, .agg ds=>((st.arg g x).1/\(st.arg g y).1/\(iN P op t cs ds).1,(iN P op t cs ds).2)
   | _,_=>rd P st g (.binOp op t x y t')
 | .makeFunc (.func f) ⟨[]⟩ ahU=>match eD (st.args g ahU.toList).2 with
   | some cs=>((st.args g ahU.toList).1, .c (.clo f cs))
   | none=>no
 | .makeFunc (.func f) ⟨x::xs⟩ ⟨[]⟩=>match eD (st.args g (x::xs)).2 with
   | some cs=>((st.args g (x::xs)).1, .c (.bmv f cs))
   | none=>no
 | op=>rd P st g op
theorem WU {w:World} {G:AF}: ∀ {vs:List V} {cs:List C} {us:List Value},eD vs=some cs->As w G vs us->Ai w G cs us
 | [],cs,us,h,hr=>by grind [eD,As,Ai]
 | v::vs,cs,us,h,hr=>by
   unfold eD at h;split at h
   ·grind
   ·rename_i x vs' he;injection he with h1 h2;subst h1 h2;split at h
    ·rename_i cs' hcs;injection h with h;subst h;simp only [As,Ab]at hr;obtain⟨u,r,rfl,h1,h2⟩:=hr;simp only [Ai];exact⟨h1,WU hcs h2⟩
    ·cases h
   ·cases h
theorem Gn {P:Program} {F:Fr} {st:St} {a:Act} {w:World} {G:AF} (h:R F st a w G) {g:Bool} (hg:g=true) {o:Oper} (hs:(D7 P st g o.op).1):
 ∃ v,Ab w G (D7 P st g o.op).2 v/\ ∀ w',C6 w w'->(execOp a.eval o).run P w'= .ok (.value v) w':=by
 unfold D7 at *;split at hs
 ·rename_i t ps ho;obtain⟨v,q1,q2⟩:=ez h hg hs;exact⟨v,q1,(by simp_all [execOp])⟩
 ·rename_i op t x y t' ho;split at hs
  ·rename_i cs ds e1 e2;have hx:=h.arg hg hs.1;have hy:=h.arg hg hs.2.1;rw [e1]at hx;rw [e2]at hy;obtain⟨v,q1,q2⟩:=mw (P:=P) (op:=op) (t:=t) (ox:=x) (oy:=y) hx hy hs.2.2;refine⟨v,q1,fun w' hw'=>?_⟩;have:=q2 w';simp only [execOp,ho,Sem.run_bind]at this ⊢;simp_all
  grind [iA]
 ·rename_i f ahU ho;split at hs
  ·rename_i cs hcs;have:=WU hcs (h.args hg hs);refine⟨.func (.func f) #[] (ahU.map a.eval),⟨_,rfl,by simpa using this⟩,(by simp_all [execOp,Instr.makeFunc])⟩
  grind
 ·rename_i f x xs ho;split at hs
  ·rename_i cs hcs;have:=WU hcs (h.args hg hs);refine⟨.func (.func f) ((x::xs).map a.eval).toArray #[],⟨_,rfl,by simpa using this⟩,(by simp_all [execOp,Instr.makeFunc])⟩
  grind
 ·exact iA h hg hs
inductive Kind where
 | rd | ef | call (f:FuncId) (xs:List Operand) | cut (x:Operand) | no
def BH:Op->Kind
 | .alloc _ | .box _ _ | .buildSlice .. | .makeSlice .. | .store .. => .ef
 | .assign (.const (.slice none 0 0))=> .ef
 | .slice _ x _ _ _=> .cut x
 | .call c=>match c.callee with
   | .builtin .append => .ef
   | .builtin .copy => .ef
   | .builtin _=> .rd
   | .value (.func f)=> .call f c.args.toList
   | _=> .no
 | _=> .rd
def St.cutAt (st:St) (g:Bool) (x:Operand):St:=
 match (st.arg g x).2 with
 | .c (.j_ id)=>st.freeze id
 | _=>st
abbrev ir (F:Fr) (K:St->Prop) (a:Act) (w:World):Prop:= ∃ a_ G',K a_/\R F a_ a w G'
def DL (P:Program) (I:World->Prop) (o:Oper) (st:St) (K:St->Prop):Prop:=
 ∀ (F:Fr) (a:Act) (w:World) (G:AF) (Q:Exit->Act->World->Prop),F.I=I->R F st a w G->o.wp P a w (ir F K) Q
def qY (P:Program) (I:World->Prop) (o:Oper) (st:St) (K:St->Prop):Prop:=
 DL P I o st K\/match BH o.op with
 | .rd =>(D7 P st true o.op).1/\K (st.put o.dst (D7 P st true o.op).2)
 | .ef =>(ef P st o).1/\K (ef P st o).2
 | .call f xs=>(st.args true xs).1/\Cq ((st.args true xs).2.map (BF st))=true/\
  ∃ Q,BV P I f ((st.args true xs).2.map (BF st)) Q/\ ∀ r,Q r->(r.flat=true\/(C7 (st.args true xs).2).length <=1/\ ∀ id∈C7 (st.args true xs).2,st.ab9 id=true)/\K (st.after (C7 (st.args true xs).2) o.dst r)
 | .cut x=>(D7 P (st.cutAt true x) true o.op).1/\K ((st.cutAt true x).put o.dst (D7 P (st.cutAt true x) true o.op).2)
 | .no =>False
def Ia (st:St) (ops:Array Oper) (j:Nat) (want:Bool):Option Bool:=
 match ops[j]? with
 | some p=>match p.dst with
   | some t=>match st.get t with
     | .c (.bool b)=>some (b==want)
     | .g c (.c (.bool b))=>some (c&&(b==want))
     | _=>none
   | none=>none
 | none=>none
def wpG (P:Program) (I:World->Prop) (o:Oper) (st:St) (g:Bool) (K:St->Prop):Prop:=
 ((g=true->qY P I o st K)/\(g=false-> ∃ x a_,B8 (st.put o.dst (.g g x)) a_/\K a_))\/match BH o.op with
 | .rd => ∃ v,(g=true->(D7 P st g o.op).1/\(D7 P st g o.op).2=v)/\K (st.put o.dst (.g g v))
 | .call f xs=>(g=true->(st.args g xs).1/\Cq ((st.args g xs).2.map (BF st))=true)/\
  ∃ r,(r.flat=true\/C7 (st.args g xs).2=[])/\(g=true->BV P I f ((st.args g xs).2.map (BF st)) (· =r))/\K (st.put o.dst (.g g r))
 | _=>False
def bY (P:Program) (I:World->Prop) (ops:Array Oper) (o:Oper) (st:St) (K:St->Prop):Prop:=
 match o.guard with
 | none=>qY P I o st K
 | some (j,want)=>match Ia st ops j want with
   | some g=>wpG P I o st g K
   | none=>False
def DY (P:Program) (I:World->Prop) (ops:Array Oper):List Oper->St->(St->Prop)->Prop
 | [],st,K=>K st
 | o::rest,st,K=>bY P I ops o st (fun a_=>DY P I ops rest a_ K)
def wq1 (P:Program) (I:World->Prop) (o:Oper) (st:St) (K:St->Prop):Prop:=
 match BH o.op with
 | .rd =>(D7 P st true o.op).1/\K (st.put o.dst (D7 P st true o.op).2)
 | .cut _=>(D7 P st true o.op).1/\K (st.put o.dst (D7 P st true o.op).2)
 | .call f xs=>(st.args true xs).1/\Cq ((st.args true xs).2.map (BF st))=true/\
  ∃ r,r.flat=true/\BV P I f ((st.args true xs).2.map (BF st)) (· =r)/\K (st.put o.dst r)
 | _=>False
def wqG (P:Program) (I:World->Prop) (o:Oper) (st:St) (g:Bool) (K:St->Prop):Prop:=
 match BH o.op with
 | .rd => ∃ v,(g=true->(D7 P st g o.op).1/\(D7 P st g o.op).2=v)/\K (st.put o.dst (.g g v))
 | .cut _=> ∃ v,(g=true->(D7 P st g o.op).1/\(D7 P st g o.op).2=v)/\K (st.put o.dst (.g g v))
 | .call f xs=>(g=true->(st.args g xs).1/\Cq ((st.args g xs).2.map (BF st))=true)/\
  ∃ r,r.flat=true/\(g=true->BV P I f ((st.args g xs).2.map (BF st)) (· =r))/\K (st.put o.dst (.g g r))
 | _=>False
def wqO (P:Program) (I:World->Prop) (ops:Array Oper) (o:Oper) (st:St) (K:St->Prop):Prop:=
 match o.guard with
 | none=>wq1 P I o st K
 | some (j,want)=>match Ia st ops j want with
   | some g=>wqG P I o st g K
   | none=>False
def bZ (P:Program) (I:World->Prop) (ops:Array Oper):List Oper->St->(St->Prop)->Prop
 | [],st,K=>K st
 | o::rest,st,K=>wqO P I ops o st (fun a_=>bZ P I ops rest a_ K)
section
variable {P:Program} {F:Fr} {st:St} {a:Act} {w:World} {G:AF} {ops:Array Oper}
theorem Gq {o:Oper} (h:o.guard=none) (y:Nat->Option Bool):Region.wanted o y=true:=by simp [Region.wanted,h]
theorem J5 (h:R F st a w G) {o:Oper} {j:Nat} {want g:Bool} (hg:o.guard=some (j,want)) (hq:Ia st ops j want=some g):Region.wanted o (yielded ops a.tmps)=g:=by
 unfold Ia at hq;split at hq
 ·rename_i p hp;split at hq
  ·rename_i t ht;have hs:=h.w_ t;have hv: ∀ v:Value,v ≠ Go.undef->a.tmps.getD t Go.undef=v->a.tmps[t]? =some v:=by intro v Tg he;rw [Array.getD_eq_getD_getElem?]at he;grind
   split at hq
   ·rename_i b hb;injection hq with hq;subst hq;have:st.tm.getD t .undef = .c (.bool b):=hb;grind [Ab,Ae,Go.undef,Region.wanted,yielded]
   ·rename_i c b hb;injection hq with hq;subst hq;have:st.tm.getD t .undef = .g c (.c (.bool b)):=hb;rw [this]at hs;simp only [Ab,Ae]at hs;cases c with
    | true=>
      rw [if_pos rfl]at hs;grind [Go.undef,Region.wanted,yielded]
    | false=>
      simp only [false_eq_true,if_false]at hs;have hn: ∀ x,a.tmps[t]? =some (.bool x)->False:=by intro x hx;simp_all [Go.undef]
      grind [yielded,Region.wanted]
   ·cases hq
  ·cases hq
 ·cases hq
theorem R.cutAt (h:R F st a w G) (g:Bool) (x:Operand): ∃ G',R F (st.cutAt g x) a w G':=by
 unfold St.cutAt;split
 ·obtain⟨G',q,_⟩:=h.freeze _;exact⟨G',q⟩
 grind
theorem AK {o:Oper} {v:Value} {w':World} {K:Act->World->Prop} {Q:Exit->Act->World->Prop} (hr:(execOp a.eval o).run P w= .ok (.value v) w') (h:K (a.put o.dst v) w'):o.wp P a w K Q:=by grind [Oper.wp,Oper.upon]
theorem O5 (h:R F st a w G) {o:Oper} {K:St->Prop} {Q:Exit->Act->World->Prop} (hs:qY P F.I o st K):o.wp P a w (ir F K) Q:=by
 unfold qY at hs;rcases hs with hs | hs
 ·exact hs F a w G Q rfl h
 split at hs
 ·obtain⟨v,q1,q2⟩:=Gn h rfl hs.1;exact AK (q2 w (C6.refl w)) ⟨_,G,hs.2,h.put q1⟩
 ·obtain⟨nx,w',G',q1,q2⟩:=(Rf h hs.1).out;unfold Oper.wp Oper.upon;grind
 ·rename_i f xs hk;obtain⟨h1,h2,Q',hc,hq⟩:=hs;have hr:(execOp a.eval o).run P w= .ok (.enter f (xs.map a.eval).toArray) w:=by
   unfold BH at hk;split at hk<;>try (cases hk;done)
   rename_i c ho;split at hk<;>try (cases hk;done)
   rename_i f' adK;injection hk with hk1 hk2;subst hk1 hk2;simp [execOp,ho,resolve,adK,Act.eval,Deferred.ofValue,invoke,ab4 hc.ent];grind
  unfold Oper.wp Oper.upon;rw [hr];refine(h.called (us:=(xs.map a.eval).toArray) hc h2 (by simpa using h.args rfl h1) o.dst (by grind)).mono fun e w' ⟨v,r,G',he,q,hR⟩=>?_;subst he;exact⟨_,G',(hq r q).2,hR⟩
 ·rename_i x hk;obtain⟨G',hR⟩:=h.cutAt true x;obtain⟨v,q1,q2⟩:=Gn hR rfl hs.1;exact AK (q2 w (C6.refl w)) ⟨_,G',hs.2,hR.put q1⟩
 grind
theorem iO (h:R F st a w G) {d:Option Nat} {g:Bool} {x:V} {v:Value} (hg:g=true) (hx:Ab w G x v):R F (st.put d (.g g x)) (a.put d v) w G:=
 h.put (by simp_all [Ab])
theorem eE (h:R F st a w G) {d:Option Nat} {g:Bool} {x:V} (hg:g=false):R F (st.put d (.g g x)) (a.put d Go.undef) w G:=
 h.put (by simp [Ab,hg])
theorem Ri {o:Oper} {f:FuncId} {xs:List Operand} (hk:BH o.op= .call f xs) (he:ent P f=true) (w:World):(execOp a.eval o).run P w= .ok (.enter f (xs.map a.eval).toArray) w:=by
 unfold BH at hk;split at hk<;>try (cases hk;done)
 rename_i c ho;split at hk<;>try (cases hk;done)
 rename_i f' adK;injection hk with hk1 hk2;subst hk1 hk2;simp [execOp,ho,resolve,adK,Act.eval,Deferred.ofValue,invoke,ab4 he];grind
theorem WV (h:R F st a w G) {f:FuncId} {g:Bool} (hg:g=true) {xs:List Operand} (h1:(st.args g xs).1) (h2:Cq ((st.args g xs).2.map (BF st))=true) {r:V} (hr:r.flat=true)
 (hc:BV P F.I f ((st.args g xs).2.map (BF st)) (· =r)) {w':World} (ho:N3 w w') (hs:C6 w w'):
 Calls P f (xs.map a.eval).toArray w' (fun e w''=>e= .returned (iL r)/\Below w'.heap.size w' w''):=by
 have hR:=h.same ho hs;have hav: ∀ b,b<w'.heap.size->(G.wr b/\ ∀ id∈C7 (st.args g xs).2,G.o_ id ≠ some b)->G.wr b:=fun _ _ q=>q.1;have h3:=Ht hR (av:=fun b=>G.wr b/\ ∀ id∈C7 (st.args g xs).2,G.o_ id ≠ some b) hav (by grind) h2 (by simpa using hR.args hg h1);refine(hc.run w' _ (fun b=>G.wr b/\ ∀ id∈C7 (st.args g xs).2,G.o_ id ≠ some b) (hR.inv w' hR.v_ hR.ext) (fun b hb=>hR.aiu hb.1) (by grind)).mono fun e w'' ⟨v,r',he,hq,_,hv,hb⟩=>?_;grind [Gm]
theorem b0 (h:R F st a w G) {o:Oper} {g:Bool} {K:St->Prop} {Q:Exit->Act->World->Prop} (hs:wpG P F.I o st g K):
 if g then o.wp P a w (ir F K) Q else ir F K (a.put o.dst Go.undef) w:=by
 unfold wpG at hs;rcases hs with hs | hs
 ·split
  ·grind [O5]
  ·rename_i hg;have hg':g=false:=by grind
   obtain⟨x,a_,h1,h2⟩:=hs.2 hg';exact⟨a_,G,h2,(eE h hg').less h1⟩
 split at hs
 ·obtain⟨x,hx,hs⟩:=hs;split
  ·rename_i hg;obtain⟨v,q1,q2⟩:=Gn h hg (hx hg).1;rw [(hx hg).2]at q1;exact AK (q2 w (C6.refl w)) ⟨_,G,hs,iO h hg q1⟩
  ·rename_i hg;exact⟨_,G,hs,eE h (by grind)⟩
 ·rename_i f xs hk;obtain⟨h1,r,hr,hc,hK⟩:=hs;split
  ·rename_i hg;unfold Oper.wp Oper.upon;rw [Ri hk (hc hg).ent w];rcases hr with hr | Tg
   rotate_left
   ·have hp:=(h1 hg).2;have h2:=Ht h (av:=fun b=>G.wr b) (fun _ _ q=>q) (by grind) hp (by simpa using h.args hg (h1 hg).1:As w G (st.args g xs).2 (xs.map a.eval));refine((hc hg).run w (xs.map a.eval).toArray (fun b=>G.wr b) (h.inv w h.v_ h.ext) (fun b hb=>h.aiu hb) (by grind)).mono fun e w' ⟨v,r',he,hq,hpr,hr',hb⟩=>?_;subst he hq;exact⟨_,G,hK,iO (h.same (Et hb) (FY hb)) hg (by grind [WO])⟩
   refine(WV h hg (h1 hg).1 (h1 hg).2 hr (hc hg) ⟨rfl,rfl,rfl⟩ (C6.refl w)).mono fun e w' ⟨he,hb⟩=>?_;subst he;exact⟨_,G,hK,iO (h.same (Et hb) (FY hb)) hg ((Gm hr).2 rfl)⟩
  ·rename_i hg;exact⟨_,G,hK,eE h (by grind)⟩
 grind
theorem UJ {Q:Exit->Act->World->Prop} {K:St->Prop} (hQ: ∀ a_ a' w' G',K a_->R F a_ a' w' G'->Q .normal a' w'):
 ∀ (l:List Oper) (st:St) (a:Act) (w:World) (G:AF),R F st a w G->DY P F.I ops l st K->wpList P ops Q l a w
 | [],st,a,w,G,h,hs=>hQ st a w G hs h
 | o::rest,st,a,w,G,h,hs=>by
   refine wpList_step fun K' hK'=>?_;have agf: ∀ a' w',ir F (fun a_=>DY P F.I ops rest a_ K) a' w'->K' a' w':=fun a' w' ⟨a_,G',q,hR⟩=>
    hK' a' w' (UJ hQ rest a_ a' w' G' hR q)
   have atz: ∀ {o:Oper},o.wp P a w (ir F (fun a_=>DY P F.I ops rest a_ K)) Q->o.wp P a w K' Q:=fun {o} hw=>by
    unfold Oper.wp Oper.upon at *;generalize (execOp a.eval o).run P w=r at *;cases r with
    | ok n w'=>
      cases n<;>simp only at hw ⊢ <;>first
       | exact agf _ _ hw
       | exact hw.mono fun e w'' he=>by grind
       | exact Rows.mono hw fun v w'' he=>agf _ _ he
       | exact hw
    | halt x w'=>grind
   simp only [DY,bY]at hs;split at hs
   ·rename_i hg;rw [Gq hg,if_pos rfl];exact atz (O5 h hs)
   ·rename_i j want hg;split at hs
    ·rename_i g hq;rw [J5 h hg hq];have:=b0 (Q:=Q) h hs;grind
    grind
end
end Go.PL
namespace Go.PL
open Go Go.RowKit
section
variable {P:Program} {F:Fr} {st:St} {a:Act} {w:World} {G:AF} {ops:Array Oper}
def PJ (w:World) (w':World):Prop:=N3 w w'/\C6 w w'
theorem PJ.below {w w' w'':World} (h:PJ w w') (hb:Below w'.heap.size w' w''):PJ w w'':=
 ⟨⟨hb.os.trans h.1.os,hb.tape.trans h.1.tape,hb.output.trans h.1.output⟩,h.2.trans (FY hb)⟩
theorem J6 {o:Oper} {v:Value} {K:Act->Prop} (hr: ∀ w',C6 w w'->(execOp a.eval o).run P w'= .ok (.value v) w') (h:K (a.put o.dst v)):o.quiet P a (PJ w) K:=
 ⟨v,fun w' hw'=>by unfold Oper.quietAt;rw [hr w' hw'.2];exact⟨rfl,rfl⟩,h⟩
theorem qZ (h:R F st a w G) {o:Oper} {K:St->Prop} {K':Act->Prop} (hK: ∀ a_ a',K a_->R F a_ a' w G->K' a') (hs:wq1 P F.I o st K):o.quiet P a (PJ w) K':=by
 unfold wq1 at hs;split at hs
 ·obtain⟨v,q1,q2⟩:=Gn h rfl hs.1;exact J6 q2 (hK _ _ hs.2 (h.put q1))
 ·obtain⟨v,q1,q2⟩:=Gn h rfl hs.1;exact J6 q2 (hK _ _ hs.2 (h.put q1))
 ·rename_i f xs hk;obtain⟨h1,h2,r,hr,hc,hq⟩:=hs;refine⟨iL r,fun w' hw'=>?_,hK _ _ hq (h.put ((Gm hr).2 rfl))⟩;unfold Oper.quietAt;rw [Ri hk hc.ent w'];exact⟨rfl,(WV h rfl h1 h2 hr hc hw'.1 hw'.2).mono fun e w'' ⟨he,hb⟩=>⟨he,hw'.below hb⟩⟩
 grind
theorem q8 (h:R F st a w G) {o:Oper} {g:Bool} {K:St->Prop} {K':Act->Prop} (hK: ∀ a_ a',K a_->R F a_ a' w G->K' a') (hs:wqG P F.I o st g K):
 if g then o.quiet P a (PJ w) K' else K' (a.put o.dst Go.undef):=by
 unfold wqG at hs;have av9:(∃ x,(g=true->(D7 P st g o.op).1/\(D7 P st g o.op).2=x)/\K (st.put o.dst (.g g x)))->if g then o.quiet P a (PJ w) K' else K' (a.put o.dst Go.undef):=by
  rintro⟨x,hx,hs⟩;split
  ·rename_i hg;obtain⟨v,q1,q2⟩:=Gn h hg (hx hg).1;rw [(hx hg).2]at q1;exact J6 q2 (hK _ _ hs (iO h hg q1))
  ·rename_i hg;exact hK _ _ hs (eE h (by grind))
 split at hs
 ·grind
 ·grind
 ·rename_i f xs hk;obtain⟨h1,r,hr,hc,hq⟩:=hs;split
  ·rename_i hg;refine⟨iL r,fun w' hw'=>?_,hK _ _ hq (iO h hg ((Gm hr).2 rfl))⟩;unfold Oper.quietAt;rw [Ri hk (hc hg).ent w'];exact⟨rfl,(WV h hg (h1 hg).1 (h1 hg).2 hr (hc hg) hw'.1 hw'.2).mono fun e w'' ⟨he,hb⟩=>⟨he,hw'.below hb⟩⟩
  grind
 grind
theorem UK {Q':Act->Prop} {K:St->Prop} (hQ: ∀ a_ a',K a_->R F a_ a' w G->Q' a'):
 ∀ (l:List Oper) (st:St) (a:Act),R F st a w G->bZ P F.I ops l st K->wpQuiet P ops (PJ w) Q' l a
 | [],st,a,h,hs=>hQ st a hs h
 | o::rest,st,a,h,hs=>by
   have agf: ∀ a_ a',bZ P F.I ops rest a_ K->R F a_ a' w G->wpQuiet P ops (PJ w) Q' rest a':=fun a_ a' q hR=>UK hQ rest a_ a' hR q;simp only [bZ,wqO]at hs;simp only [wpQuiet];split at hs
   ·rename_i hg;rw [Gq hg,if_pos rfl];exact qZ h agf hs
   ·rename_i j want hg;split at hs
    ·rename_i g hq;rw [J5 h hg hq];exact q8 h agf hs
    grind
def Ad (P:Program) (F:Fr) (c:Code) (st:St) (Q:Exit->St->Prop):Prop:=
 ∀ a w G,R F st a w G->c.wp P (fun e a' w'=> ∃ a_ G',Q e a_/\R F a_ a' w' G') a w
def Cx (K:St->Prop) (Q:Exit->St->Prop):Exit->St->Prop
 | .normal,st=>K st
 | e,st=>Q e st
def Cr (id:Nat) (Q:Exit->St->Prop):Exit->St->Prop
 | .exit j,st=>if j=id then Q .normal st else Q (.exit j) st
 | e,st=>Q e st
theorem Ad.seq {x y:Code} {Q:Exit->St->Prop} (h:Ad P F x st (Cx (fun a_=>Ad P F y a_ Q) Q)):Ad P F (.seq x y) st Q:=
 fun a w G hR=>wp_seq (Code.wp_mono (fun e a' w' ⟨a_,G',q,hR'⟩=>by cases e<;>simp only [Exit.then,Cx]at q ⊢ <;>first | exact q a' w' G' hR' | grind) (h a w G hR))
theorem Ad.skip {Q:Exit->St->Prop} (h:Q .normal st):Ad P F .skip st Q:=fun _ _ G hR=>wp_skip ⟨st,G,h,hR⟩
theorem Ad.ret {Q:Exit->St->Prop} (h:Q .ret st):Ad P F .ret st Q:=fun _ _ G hR=>wp_ret ⟨st,G,h,hR⟩
theorem Ad.exit {id:Nat} {Q:Exit->St->Prop} (h:Q (.exit id) st):Ad P F (.exit id) st Q:=fun _ _ G hR=>wp_exit ⟨st,G,h,hR⟩
theorem Ad.block {id:Nat} {c:Code} {Q:Exit->St->Prop} (h:Ad P F c st (Cr id Q)):Ad P F (.block id c) st Q:=
 fun a w G hR=>wp_block (Code.wp_mono (fun e a' w' ⟨a_,G',q,hR'⟩=>by
  cases e<;>simp only [Exit.inBlock,Cr]at q ⊢ <;>first
   | grind
   | grind) (h a w G hR))
theorem Ad.cond {c:Operand} {x y:Code} {Q:Exit->St->Prop} {b:Bool} (hc:st.ev c= .c (.bool b)) (h1:b=true->Ad P F x st Q) (h2:b=false->Ad P F y st Q):Ad P F (.cond c x y) st Q:=by
 intro a w G hR;have:=hR.ev c;rw [hc]at this;simp only [Ab,Ae]at this;refine wp_cond this ?_;cases b with
 | true=>exact h1 rfl a w G hR
 | false=>exact h2 rfl a w G hR
theorem Ad.region {id:Nat} {ops:Array Oper} {Q:Exit->St->Prop} (h:DY P F.I ops ops.toList st (Q .normal)):Ad P F (.region id ops false) st Q:=
 fun a w G hR=>wp_region_list (UJ (K:=Q .normal) (fun a_ _ _ G' q hR'=>⟨a_,G',q,hR'⟩) _ _ _ _ _ hR h)
theorem Ad.aod {id:Nat} {ops:Array Oper} {Q:Exit->St->Prop} (h1:P.follows .mixedOrders =true) (h2:Region.lexB .any ops=true) (h:bZ P F.I ops ops.toList st (Q .normal)):Ad P F (.region id ops true) st Q:=by intro a w G hR;refine wp_region_quiet (C:=PJ w) h1 h2 ⟨⟨rfl,rfl,rfl⟩,⟨le_refl _,fun _ _=>rfl⟩⟩ ?_;exact UK (K:=Q .normal) (fun a_ a' q hR' w' hw'=>⟨a_,G,q,hR'.same hw'.1 hw'.2⟩) _ _ _ hR h
theorem Ad.mono {c:Code} {Q Q':Exit->St->Prop} (h:Ad P F c st Q) (hq: ∀ e a_,Q e a_->Q' e a_):Ad P F c st Q':=
 fun a w G hR=>Code.wp_mono (by grind) (h a w G hR)
theorem Ad.less {c:Code} {a_:St} {Q:Exit->St->Prop} (hl:B8 st a_) (h:Ad P F c a_ Q):Ad P F c st Q:=
 fun a w G hR=>h a w G (hR.less hl)
theorem Ad.loop {X:Type} (S:X->St) (inv:X->Prop) (μ:X->Nat) {c:Code} {Q:Exit->St->Prop} (x0:X) (h0:inv x0) (hl:B8 st (S x0))
 (hb: ∀ x,inv x->Ad P F c (S x) (Cx (fun a_=> ∃ y,inv y/\μ y<μ x/\B8 a_ (S y)) Q)):Ad P F (.loop c) st Q:=by
 intro a w G hR;refine wp_loop_ghost (fun n a' w'=> ∃ x G',inv x/\μ x=n/\R F (S x) a' w' G') (μ x0) ⟨x0,G,h0,rfl,hR.less hl⟩ ?_;intro n a' w' ⟨x,G',hx,hn,hR'⟩;subst hn;refine Code.wp_mono (fun e a'' w'' ⟨a_,G'',q,at7⟩=>?_) (hb x hx a' w' G' hR');cases e<;>simp only [Cx]at q
 case normal=>
  obtain⟨y,hy,hm,hl'⟩:=q;exact⟨μ y,hm,y,G'',hy,rfl,at7.less hl'⟩
 all_goals exact⟨a_,G'',q,at7⟩
end
end Go.PL
namespace Go.PL
open Go Go.RowKit
def Rj (P:Program) (st:St):ResultVar->Prop×V
 | .tmp t=>(True,BF st (st.get t))
 | .cell t T=>let r:=DW P T st (st.get t)
   (r.1,BF st r.2)
def Gr (P:Program) (st:St):List ResultVar->Prop×List V
 | []=>(True,[])
 | x::xs=>((Rj P st x).1/\(Gr P st xs).1,(Rj P st x).2::(Gr P st xs).2)
def DH (P:Program) (st:St):List ResultVar->Prop×V
 | [x]=>Rj P st x
 | xs=>((Gr P st xs).1, .tup (Gr P st xs).2)
def pg (P:Program) (fn:Func) (Q:V->Prop):Exit->St->Prop
 | .normal,st=>(DH P st fn.results.toList).1/\(DH P st fn.results.toList).2.pure =true/\Q (DH P st fn.results.toList).2
 | .ret,st=>(DH P st fn.results.toList).1/\(DH P st fn.results.toList).2.pure =true/\Q (DH P st fn.results.toList).2
 | _,_=>False
def St.start (args:List V) (n:Nat):St:={tm:=args++List.replicate (n - args.length) .undef,so:=[]}
theorem Fc {w:World} {G:AF}: ∀ {xs:List V} {vs:List Value},As w G xs vs->xs.length=vs.length
 | [],vs,h=>by grind [As]
 | x::xs,vs,h=>by simp only [As]at h;obtain⟨v,r,rfl,_,h2⟩:=h;simp [Fc h2]
def J8 (I:World->Prop):Prop:= ∀ w w':World,I w->w.heap.size<=w'.heap.size->(∀ b,b<w.heap.size->w'.heap[b]? =w.heap[b]?)->I w'
theorem R.start {I:World->Prop} (hst:J8 I) {w:World} (hI:I w) {vs:Array Value} {av:Nat->Prop} (hav: ∀ b,av b->b<w.heap.size) {args:List V} (h:As w (im av) args vs.toList) (n:Nat):
 R ⟨w,av,fun _=>False,I,[]⟩ (St.start args n) {tmps:=vs++Array.replicate (n - vs.size) Go.undef,defers:=[]} w (im av):=by
 have hl:=Fc h;have hl':args.length=vs.size:=by grind
 exact {
  dfr:=rfl
  size:=by simp [St.start,hl']
  w_:=by
   intro i;simp only [St.start,List.getD_eq_getElem?_getD,Array.getD_eq_getD_getElem?];by_cases hi:i<args.length
   ·grind [JA]
   grind [Ab]
  I_:=by simp [St.start,As]
  store:=by simp [St.start]
  deep:=by simp [St.start]
  y_:=by simp [St.start]
  nodup:=by simp [St.start]
  inj:=by simp [im]
  lt:=by simp [im]
  new:=by simp [im]
  wr:=by simp [im]
  aaJ:=hav
  inv:=fun w' h1 h2=>hst w w' hI h1 (by grind)
  aae:=by simp
  os:=rfl,tape:=rfl,output:=rfl,v_:=le_refl _,ext:=fun _ _ _=>rfl}
section
variable {P:Program} {F:Fr} {st:St} {a:Act} {w:World} {G:AF}
theorem R.out (h:R F st a w G) (hold: ∀ b, ¬F.old b) {x:V} {v:Value} (hp:(BF st x).pure =true) (hr:Ab w G x v):Ab w (im F.av) (BF st x) v:=by
 refine bW h (fun b _ hb=>(h.wr b).2 (.inl hb)) (fun id _ _ b hb hav=>?_) hp hr;rcases h.new id b hb with q | q
 ·have:=h.aaJ b hav;omega
 grind
theorem cd {t:TypeId} {x:V} {u:Value} (hx:Ab w G x u) (hs:(DW P t st x).1): ∃ p,u= .pointer (some p):=by
 unfold DW at hs;split at hs
 ·simp only [Ab,Ae]at hx;grind
 ·simp only [Ab,Ae]at hx;grind
 grind
def J9 (tmps:Array Value):ResultVar->Sem Value
 | .tmp t=>pure (tmps.getD t Go.undef)
 | .cell a t=>do loadVar t (<-asAddr (tmps.getD a Go.undef))
theorem WW (h:R F st a w G) (hold: ∀ b, ¬F.old b) {x:ResultVar} (hs:(Rj P st x).1) (hp:(Rj P st x).2.pure =true):
 ∃ v,(J9 a.tmps x).run P w= .ok v w/\Ab w (im F.av) (Rj P st x).2 v:=by
 cases x with
 | tmp t=>exact⟨_,rfl,h.out hold hp (h.w_ t)⟩
 | cell t T=>
   simp only [Rj]at hs hp ⊢;obtain⟨v,q1,q2⟩:=N0 (P:=P) h (h.w_ t) hs;obtain⟨p,axu⟩:=cd (h.w_ t) hs;refine⟨v,?_,h.out hold hp q1⟩;grind [C6.refl,J9,asAddr,Instr.loadAt,Instr.sureAddr]
theorem UL (h:R F st a w G) (hold: ∀ b, ¬F.old b): ∀ {xs:List ResultVar},(Gr P st xs).1->Cq (Gr P st xs).2=true->
 ∃ vs,(xs.mapM (J9 a.tmps)).run P w= .ok vs w/\As w (im F.av) (Gr P st xs).2 vs
 | [],_,_=>(by simp_all [Gr,As])
 | x::xs,hs,hp=>by simp only [Gr]at hs hp ⊢;simp only [Cq,and_eq_true]at hp;obtain⟨v,q1,q2⟩:=WW h hold hs.1 hp.1;obtain⟨vs,k1,k2⟩:=UL h hold hs.2 hp.2;exact⟨v::vs,by simp_all,by simp only [As];grind⟩
theorem Gt {fn:Func} {tmps:Array Value} {vs:List Value} (h:(fn.results.toList.mapM (J9 tmps)).run P w= .ok vs w):
 (results fn tmps).run P w= .ok (match vs with | [v]=>v | vs=> .tuple vs.toArray) w:=by
 have e:fn.results.mapM (J9 tmps)=List.toArray<$>fn.results.toList.mapM (J9 tmps):=by obtain⟨l,hl⟩: ∃ l:List ResultVar,fn.results=l.toArray:=(by grind);grind
 have e2:results fn tmps=(do
  let vs <-fn.results.mapM (J9 tmps)
  pure (if h:vs.size=1 then vs[0]else .tuple vs)):=by
  unfold results;congr 1
  all_goals (try (congr 1;funext x;cases x<;>rfl))
 rw [e2,e];simp only [Sem.run_bind,Sem.run_map,h,Result.andThen_ok]
 match vs with
 | []=>simp
 | [v]=>simp
 | v::u::vs=>simp
theorem mA (h:R F st a w G) (hold: ∀ b, ¬F.old b) {fn:Func} (hs:(DH P st fn.results.toList).1) (hp:(DH P st fn.results.toList).2.pure =true):
 ∃ v,(results fn a.tmps).run P w= .ok v w/\Ab w (im F.av) (DH P st fn.results.toList).2 v:=by
 unfold DH at *;split at hs
 ·rename_i x hx;simp only [hx]at hp ⊢;obtain⟨v,q1,q2⟩:=WW h hold hs hp;simp_all [Gt]
 ·rename_i xs Tg;split at hp
  ·grind
  ·obtain⟨vs,q1,q2⟩:=UL h hold hs (by simpa only [V.pure] using hp);refine⟨.tuple vs.toArray,?_,?_⟩
   ·have:=Gt (P:=P) (w:=w) (fn:=fn) (tmps:=a.tmps) q1;rw [this];have hl:=Fc q2
    match hvs:vs with
    | []=>rfl
    | [v]=>
      exfalso;have hxl: ∀ xs:List ResultVar,(Gr P st xs).2.length =xs.length:=by intro xs;induction xs<;>grind [Gr]
      rw [hxl]at hl
      match hr:fn.results.toList,hl with
      | [x],_=>grind
    | v::u::vs=>rfl
   ·simp only [Ab];grind
theorem R.below (h:R F st a w G) (hold: ∀ b, ¬F.old b):Below F.w0.heap.size F.w0 w:=⟨h.os,h.tape,h.output,h.v_,fun b hb=>h.ext b hb (hold b)⟩
end
theorem BV.of {P:Program} {I:World->Prop} (hst:J8 I) {f:FuncId} {fn:Func} {c:Code} {args:List V} {Q:V->Prop} (abh:PL.ent P f=true) (hf:P.funcs[f]? =some fn) (hb:fn.body=some c)
 (h: ∀ F,F.I=I->Ad P F c (St.start args fn.ntmps) (pg P fn Q)):BV P I f args Q:=by
 refine⟨abh,fun w vs av hI hav abQ=>calls_of_wp hf hb ?_⟩;have hR:=R.start hst hI hav abQ fn.ntmps;refine Code.wp_mono (fun e a' w' ⟨a_,G',q,hR'⟩=>?_) (h _ rfl _ _ _ hR);have fin:(DH P a_ fn.results.toList).1/\(DH P a_ fn.results.toList).2.pure =true/\Q (DH P a_ fn.results.toList).2->
  a'.defers=[]/\ ∃ v,(results fn a'.tmps).run P w'= .ok v w'/\(fun(e:Ending) w''=> ∃ v r,e= .returned v/\Q r/\r.pure=true/\Ab w'' (im av) r v/\Below w.heap.size w w'') (.returned v) w':=by
  intro ⟨q1,q2,q3⟩;obtain⟨v,k1,k2⟩:=mA hR' (fun _ hx=>hx) (fn:=fn) q1 q2;exact⟨hR'.dfr,v,k1,v,_,rfl,q3,q2,k2,hR'.below (fun _ hx=>hx)⟩
 cases e<;>simp only [pg]at q<;>first | exact fin q | exact q.elim
end Go.PL
namespace Go.PL
open Go Go.RowKit
section
variable {P:Program} {I:World->Prop} {F:Fr} {ops:Array Oper} {rest:List Oper} {st st1:St} {d:Option Nat} {op:Op} {ty:TypeId} {pos:String} {af:Array Edge}
variable {K:St->Prop}
theorem Cr.out {Q:Exit->St->Prop} {i:Nat} (h:Q .normal st):Cr i Q (.exit i) st:=by simp_all [Cr]
variable {j:Nat} {want g:Bool}
theorem BV.body (agt:J8 I) {f:FuncId} {fn:Func} {c:Code} {args:List V} {Q:V->Prop} {n:Nat} {rs:List ResultVar} (abh:PL.ent P f=true) (hf:P.funcs[f]? =some fn) (hb:fn.body=some c) (hn:fn.ntmps=n) (hr:fn.results=rs.toArray)
 (hst:St.start args n=st)
 (h: ∀ w0 av old gv,Ad P ⟨w0,av,old,I,gv⟩ c st (fun e a_=>(e= .normal \/e= .ret)/\(DH P a_ rs).1/\(DH P a_ rs).2.pure =true/\Q (DH P a_ rs).2)):BV P I f args Q:=by
 refine BV.of agt abh hf hb (fun F hF=>?_);obtain⟨w0,av,old,I',gv⟩:=F;simp only at hF;subst hF;rw [hn,hst];refine(h w0 av old gv).mono fun e a_ ⟨he,q⟩=>?_;have:fn.results.toList=rs:=by rw [hr]
 rcases he with rfl | rfl<;>simp only [pg,this]<;>exact q
end
end Go.PL
namespace Go.PL
open Go Go.RowKit
attribute [go_sem] BH D7 rd Q_ Qa St.arg St.args St.ev St.get MK CY Ee WK P9 VI N1 BN KV LX LY xq Z6 mr C9 Z5
 St.put St.after St.look St.acr St.acY St.cutAt St.freeze St.new St.kill Au.kill St.start St.parts
 DW toV B6 JU Cp IW Hq P7 ml mn LC KX Q6 P6 N5 Jc V.cells Hs VJ mt GM UG K0 Bf PL.ef Rc
 Ia K2 BF Rh tz C7 Io Es C.p_ BU V.p_ LA C.flat V.flat LD C.pure Am V.pure Cq DH Rj Gr KN L4 Nu St.ab9
attribute [go_sem] getD_cons_zero List.getD_cons_succ List.set_cons_zero List.set_cons_succ map_cons List.map_nil List.filter_cons List.filter_nil List.find?_cons List.find?_nil
 cons_append List.nil_append List.length_cons List.length_nil List.replicate_succ List.replicate_zero List.take_succ_cons List.take_zero List.drop_succ_cons List.drop_zero flatMap_cons List.flatMap_nil List.append_nil
 List.all_cons List.all_nil Bool.and_true Bool.true_and Bool.and_false Bool.false_and Bool.or_false Bool.or_true Bool.false_or Bool.true_or
 beq_self_eq_true if_true if_false true_and and_true map_some Option.map_none List.getElem?_cons_zero List.getElem?_cons_succ
theorem Abt {α:Type} (a b:α):(if true then a else b)=a:=rfl
theorem Abu {α:Type} (a b:α):(if false then a else b)=b:=rfl
theorem Aei:(true=true)=True:=by simp
theorem Aej:(false=true)=False:=by simp
theorem Abv (p:Prop):(true=true->p)=p:=by simp
theorem aox (b:Bool):(if b then true else false)=b:=by grind
theorem al4 (b:Bool):(b==true)=b:=by simp_all
theorem akL (b:Bool):(b==false)= !b:=by grind
theorem xD (b c:Bool):(if b then c else false)=(b&&c):=by grind
theorem Abw (b c:Bool):(if b then true else c)=(b||c):=by grind
attribute [go_sem] Abt Abu Aei Aej Abv aox al4 akL xD Abw Bool.not_true Bool.not_false Bool.not_not
end Go.PL
