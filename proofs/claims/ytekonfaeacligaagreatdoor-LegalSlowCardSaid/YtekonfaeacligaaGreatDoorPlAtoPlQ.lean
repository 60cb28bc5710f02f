/- The pure logic: PlA, PlB, PlC, PlD, PlE, PlF, PlG, PlH, PlI, PlJ, PlK, PlL, PlLe, PlM, PlN, PlO, PlP, PlQ. -/
import Derived.WalkKit
import Derived.WalkSpells
import Derived.WalkLawsBesides
import Derived.Deep.MidRow
import Derived.Deep.LoopGhost
import Derived.Deep.QuietTactic
import Derived.BigQuiet
import Derived.Laws.StructEq
import Derived.DeepKeys
open Nat (le_refl lt_of_lt_of_le zero_le add_mul le_trans add_zero)
open Bool (and_eq_true false_eq_true not_eq_true')
open List (map_cons mem_map mem_filter take_append_drop find?_some drop_drop flatMap_cons mem_iff_getElem getD_cons_zero cons_append foldl_cons map_map)
open Option.some (injEq)
open Option (map_some)
set_option linter.all false
namespace Go.PL
open Go Go.RowKit
abbrev Ad:=List Nat
inductive C where
 | int (k:IntKind) (n:Int)
 | bool (b:Bool)
 | str (s:List UInt8)
 | sl (len:Nat) (cs:List C)
 | l_ (id:Ad)
 | ptr (id:Ad) (off:Nat)
 | bsl (id:Ad) (off len:Nat)
 | bld (id:Ad) (T:TypeId)
 | aaq (cs:List C) (off:Nat)
 | aaJ
 | K_
 | P_
 | fn (f:FuncId)
 | clo (f:FuncId) (cs:List C)
 | held
 | any
 | acA (id:Ad)
 | acE (g off:Nat)
 | bmv (f:FuncId) (cs:List C)
 | mp (kv:List (Int×Int))
 | isl (E:TypeId) (n len:Nat) (cs:List C)
 | rsl (id:Ad) (N off len:Nat)
inductive V where
 | c (x:C)
 | agg (cs:List C)
 | tup (vs:List V)
 | g (b:Bool) (v:V)
 | undef
structure Ax where
 blk:Ad->Option Nat
 own:Ad->Option Value
 wr:Nat->Prop
mutual
def C.pure:C->Bool
 | .l_ _=>false
 | .ptr .. =>false
 | .bsl .. =>false
 | .rsl .. =>false
 | .bld .. =>false
 | .acA _=>false
 | .mp _=>false
 | .clo _ cs=>Al cs
 | .bmv _ cs=>Al cs
 | _=>true
def Al:List C->Bool
 | []=>true
 | c::cs=>c.pure&&Al cs
end
mutual
def Ab (w:World) (G:Ax):C->Value->Prop
 | .int k n,v=>v= .int k n
 | .bool b,v=>v= .bool b
 | .str s,v=>v= .string ⟨s.toArray⟩
 | .sl len cs,v=>Al cs=true/\ ∃ a cap,v= .slice a len cap/\len<=cap/\cap<=maxLen/\(len=0->cs=[])/\
  (len=0\/ ∃ b off,a=some ⟨b,off,none⟩/\ ¬G.wr b/\b<w.heap.size/\Ai w G cs b off)
 | .l_ id,v=>G.own id=some v/\v.oneCell'=true
 | .ptr id off,v=> ∃ b,G.blk id=some b/\v= .pointer (some ⟨b,off,none⟩)
 | .bsl id off len,v=> ∃ b cap o,G.blk id=some b/\v= .slice (some ⟨b,o,none⟩) len cap/\len<=cap/\o<=off/\(len=0\/o=off)
 | .bld id T,v=> ∃ b,G.blk id=some b/\(∃ cur fz,w.heap[b]? =some (.cells cur T fz))/\(v= .pointer none\/v= .pointer (some ⟨b,0,none⟩))
 | .aaq cs off,v=>Al cs=true/\ ∃ b o,v= .pointer (some ⟨b,o+off,none⟩)/\ ¬G.wr b/\b<w.heap.size/\Ai w G cs b o
 | .aaJ,v=>v= .pointer none
 | .K_,v=>v= .nilIface
 | .P_,v=>v= .slice none 0 0
 | .fn f,v=>v= .func (.func f) #[] #[]
 | .clo f cs,v=> ∃ arr:Array Value,v= .func (.func f) #[] arr/\Ae w G cs arr.toList
 | .bmv f cs,v=> ∃ arr:Array Value,v= .func (.func f) arr #[]/\Ae w G cs arr.toList
 | .held,v=> ∃ t x,v= .iface t x
 | .any,v=>v.oneCell'=true
 | .acA id,v=> ∃ b,G.blk id=some b/\v= .map (some b)
 | .acE g off,v=>v= .pointer (some ⟨g,off,none⟩)
 | .mp _,_=>False
 | .isl ..,v=>v.oneCell'=true
 | .rsl id N off len,v=> ∃ b adt ad1 o cap,G.own id=some (.slice (some ⟨b,0,none⟩) adt ad1)/\v= .slice (some ⟨b,o,none⟩) len cap/\len<=cap/\off+cap=ad1/\(off<ad1->o=off*N)
def Ai (w:World) (G:Ax):List C->Nat->Nat->Prop
 | [],_,_=>True
 | c::cs,b,off=>(∃ v,w.cell? ⟨b,off,none⟩=some v/\Ab w G c v)/\Ai w G cs b (off+1)
def Ae (w:World) (G:Ax):List C->List Value->Prop
 | [],[]=>True
 | c::cs,v::vs=>Ab w G c v/\Ae w G cs vs
 | [],_::_=>False
 | _::_,[]=>False
end
mutual
def Aa (w:World) (G:Ax):V->Value->Prop
 | .c x,v=>Ab w G x v
 | .agg cs,v=> ∃ arr,v= .agg arr/\Ae w G cs arr.toList
 | .tup vs,v=> ∃ arr,v= .tuple arr/\Ao w G vs arr.toList
 | .g b x,v=>if b then Aa w G x v else v=Go.undef
 | .undef,_=>True
def Ao (w:World) (G:Ax):List V->List Value->Prop
 | [],vs=>vs=[]
 | x::xs,vs=> ∃ v r,vs=v::r/\Aa w G x v/\Ao w G xs r
end
mutual
def C.g_ (id:Ad):C->Bool
 | .l_ i=>i==id
 | .ptr i _=>i==id
 | .bsl i _ _=>i==id
 | .rsl i _ _ _=>i==id
 | .bld i _=>i==id
 | .acA i=>i==id
 | .clo _ cs=>Bm id cs
 | .bmv _ cs=>Bm id cs
 | _=>false
def Bm (id:Ad):List C->Bool
 | []=>false
 | c::cs=>c.g_ id||Bm id cs
end
mutual
theorem Fo (id:Ad): ∀ c:C,c.pure=true->c.g_ id=false
 | .l_ _,h=>by simp [C.pure]at h
 | .ptr ..,h=>by simp [C.pure]at h
 | .bsl ..,h=>by simp [C.pure]at h
 | .rsl ..,h=>by simp [C.pure]at h
 | .bld ..,h=>by simp [C.pure]at h
 | .acA ..,h=>by simp [C.pure]at h
 | .mp ..,h=>by simp [C.pure]at h
 | .isl ..,_=>by simp [C.g_]
 | .acE ..,_=>by simp [C.g_]
 | .clo _ cs,h=>by simp only [C.g_];exact AL id cs (by simpa only [C.pure] using h)
 | .bmv _ cs,h=>by simp only [C.g_];exact AL id cs (by simpa only [C.pure] using h)
 | .sl ..,_=>by simp [C.g_]
 | .aaq ..,_=>by simp [C.g_]
 | .int ..,_=>by simp [C.g_]
 | .bool _,_=>by simp [C.g_]
 | .str _,_=>by simp [C.g_]
 | .aaJ,_=>by simp [C.g_]
 | .K_,_=>by simp [C.g_]
 | .P_,_=>by simp [C.g_]
 | .fn _,_=>by simp [C.g_]
 | .held,_=>by simp [C.g_]
 | .any,_=>by simp [C.g_]
theorem AL (id:Ad): ∀ cs:List C,Al cs=true->Bm id cs=false
 | [],_=>by simp [Bm]
 | c::cs,h=>by simp only [Al,and_eq_true]at h;simp [Bm,Fo id c h.1,AL id cs h.2]
end
theorem By: ∀ l:List C,Al l=l.all C.pure
 | []=>rfl
 | c::l=>by simp [Al,By l]
theorem Bl (l m:List C):Al (l++m)=(Al l&&Al m):=by simp [By]
theorem LU {α:Type} (f:α->C) (h: ∀ x,(f x).pure =true) (l:List α):Al (l.map f)=true:=by simp [By,h]
theorem CS {α:Type} (f:α->List C) (h: ∀ x,Al (f x)=true): ∀ l:List α,Al (l.flatMap f)=true
 | []=>rfl
 | a::l=>by rw [flatMap_cons,Bl,h,CS f h l];rfl
theorem Jl {l:List C} (n:Nat) (h:Al l=true):Al (l.take n)=true:=by grind [By]
theorem Jm {l:List C} (n:Nat) (h:Al l=true):Al (l.drop n)=true:=by grind [By]
theorem nl {l:List C} (n:Nat) (h:Al l=true):(l.getD n .any).pure =true:=by
 rw [List.getD_eq_getElem?_getD];cases hx:l[n]? with
 | none=>rfl
 | some x=>grind [By]
def GJ (S:Ad->Prop) (G G':Ax):Prop:= ∀ id,S id->G'.blk id=G.blk id/\G'.own id=G.own id
def BU (w w':World) (b:Nat):Prop:= ∀ cur T fz,w.heap[b]? =some (.cells cur T fz)-> ∃ acb fz',w'.heap[b]? =some (.cells acb T fz')
theorem BU.same {w w':World} {b:Nat} (h:w'.heap[b]? =w.heap[b]?):BU w w' b:=fun cur _ fz q=>⟨cur,fz,h.trans q⟩
structure BE (G G':Ax) (w w':World):Prop where
 size:w.heap.size<=w'.heap.size
 block: ∀ b,b<w.heap.size-> ¬G.wr b->w'.heap[b]? =w.heap[b]?
 wr: ∀ b,b<w.heap.size->G'.wr b->G.wr b
 ty: ∀ i b,G.blk i=some b->G'.blk i=some b->BU w w' b
mutual
theorem Ab.one {w:World} {G:Ax}: ∀ {c:C} {v:Value},Ab w G c v->v.oneCell'=true
 | .int ..,v,h=>by simp only [Ab]at h;subst h;rfl
 | .bool ..,v,h=>by simp only [Ab]at h;subst h;rfl
 | .str ..,v,h=>by simp only [Ab]at h;subst h;rfl
 | .sl ..,v,h=>by simp only [Ab]at h;obtain⟨_,a,cap,rfl,_⟩:=h;rfl
 | .l_ _,v,h=>by grind [Ab]
 | .ptr ..,v,h=>by simp only [Ab]at h;obtain⟨b,_,rfl⟩:=h;rfl
 | .bsl ..,v,h=>by simp only [Ab]at h;obtain⟨b,cap,o,_,rfl,_⟩:=h;rfl
 | .rsl ..,v,h=>by simp only [Ab]at h;obtain⟨_,_,_,_,_,_,rfl,_⟩:=h;rfl
 | .bld ..,v,h=>by simp only [Ab]at h;obtain⟨b,_,_,rfl | rfl⟩:=h<;>rfl
 | .aaq ..,v,h=>by simp only [Ab]at h;obtain⟨_,b,o,rfl,_⟩:=h;rfl
 | .aaJ,v,h=>by simp only [Ab]at h;subst h;rfl
 | .K_,v,h=>by simp only [Ab]at h;subst h;rfl
 | .P_,v,h=>by simp only [Ab]at h;subst h;rfl
 | .fn _,v,h=>by simp only [Ab]at h;subst h;rfl
 | .clo ..,v,h=>by simp only [Ab]at h;obtain⟨arr,rfl,_⟩:=h;rfl
 | .bmv ..,v,h=>by simp only [Ab]at h;obtain⟨arr,rfl,_⟩:=h;rfl
 | .held,v,h=>by simp only [Ab]at h;obtain⟨t,x,rfl⟩:=h;rfl
 | .any,v,h=>by grind [Ab]
 | .acA ..,v,h=>by simp only [Ab]at h;obtain⟨b,_,rfl⟩:=h;rfl
 | .mp ..,v,h=>by simp only [Ab]at h
 | .isl ..,v,h=>by grind [Ab]
 | .acE ..,v,h=>by simp only [Ab]at h;subst h;rfl
end
theorem G_ {w w':World} {b:Nat} (h:w'.heap[b]? =w.heap[b]?) (o:Nat):w'.cell? ⟨b,o,none⟩=w.cell? ⟨b,o,none⟩:=
 (by grind [World.cell?_of_block])
mutual
theorem Ab.mono {w w':World} {G G':Ax} (hk:BE G G' w w'): ∀ (c:C) (v:Value),GJ (fun id=>c.g_ id=true) G G'->Ab w G c v->Ab w' G' c v
 | .int ..,_,_,h=>by grind [Ab]
 | .bool ..,_,_,h=>by grind [Ab]
 | .str ..,_,_,h=>by grind [Ab]
 | .sl len cs,v,ha,h=>by
   simp only [Ab]at h ⊢;obtain⟨hp,a,cap,h1,h2,h3,h4,h5⟩:=h;refine⟨hp,a,cap,h1,h2,h3,h4,?_⟩;rcases h5 with h5 | ⟨b,off,e,hm,hb,hr⟩
   ·grind
   ·exact .inr ⟨b,off,e,fun hm'=>hm (hk.wr b hb hm'),lt_of_lt_of_le hb hk.size,Ai.mono hk cs b off (fun id hid=>absurd (show Bm id cs=true from hid) (by rw [AL id cs hp];simp)) (fun o=>G_ (hk.block b hb hm) o) hr⟩
 | .l_ id,v,ha,h=>by simp only [Ab]at h ⊢;rw [(ha id (by simp [C.g_])).2];exact h
 | .ptr id off,v,ha,h=>by simp only [Ab]at h ⊢;rw [(ha id (by simp [C.g_])).1];exact h
 | .bsl id off len,v,ha,h=>by simp only [Ab]at h ⊢;rw [(ha id (by simp [C.g_])).1];exact h
 | .rsl id N off len,v,ha,h=>by simp only [Ab]at h ⊢;rw [(ha id (by simp [C.g_])).2];exact h
 | .bld id T,v,ha,h=>by
   simp only [Ab]at h ⊢;obtain⟨b,h1,⟨cur,fz,h2⟩,h3⟩:=h;have h4:G'.blk id=some b:=by rw [(ha id (by simp [C.g_])).1];exact h1
   exact⟨b,h4,hk.ty id b h1 h4 cur T fz h2,h3⟩
 | .aaq cs off,v,ha,h=>by simp only [Ab]at h ⊢;obtain⟨hp,b,o,e,hm,hb,hr⟩:=h;exact⟨hp,b,o,e,fun hm'=>hm (hk.wr b hb hm'),lt_of_lt_of_le hb hk.size,Ai.mono hk cs b o (fun id hid=>absurd (show Bm id cs=true from hid) (by rw [AL id cs hp];simp)) (fun o=>G_ (hk.block b hb hm) o) hr⟩
 | .aaJ,_,_,h=>by grind [Ab]
 | .K_,_,_,h=>by grind [Ab]
 | .P_,_,_,h=>by grind [Ab]
 | .fn _,_,_,h=>by grind [Ab]
 | .clo f cs,v,ha,h=>by simp only [Ab]at h ⊢;obtain⟨arr,e,hr⟩:=h;exact⟨arr,e,Ae.mono hk cs _ (fun id hid=>ha id (by simpa only [C.g_] using hid)) hr⟩
 | .bmv f cs,v,ha,h=>by simp only [Ab]at h ⊢;obtain⟨arr,e,hr⟩:=h;exact⟨arr,e,Ae.mono hk cs _ (fun id hid=>ha id (by simpa only [C.g_] using hid)) hr⟩
 | .held,_,_,h=>by grind [Ab]
 | .any,_,_,h=>by grind [Ab]
 | .acA id,v,ha,h=>by simp only [Ab]at h ⊢;rw [(ha id (by simp [C.g_])).1];exact h
 | .mp ..,_,_,h=>by simp only [Ab]at h
 | .isl ..,_,_,h=>by grind [Ab]
 | .acE ..,_,_,h=>by grind [Ab]
theorem Ai.mono {w w':World} {G G':Ax} (hk:BE G G' w w'): ∀ (cs:List C) (b off:Nat),GJ (fun id=>Bm id cs=true) G G'->(∀ o,w'.cell? ⟨b,o,none⟩=w.cell? ⟨b,o,none⟩)->Ai w G cs b off->Ai w' G' cs b off
 | [],_,_,_,_,h=>by simp only [Ai]
 | c::cs,b,off,ha,hc,h=>by
   simp only [Ai]at h ⊢;obtain⟨⟨v,hv,hr⟩,ad_⟩:=h;exact⟨⟨v,by grind,Ab.mono hk c v (fun id hid=>ha id (by simp_all [Bm])) hr⟩,
    Ai.mono hk cs b (off+1) (fun id hid=>ha id (by simp_all [Bm])) hc ad_⟩
theorem Ae.mono {w w':World} {G G':Ax} (hk:BE G G' w w'): ∀ (cs:List C) (vs:List Value),GJ (fun id=>Bm id cs=true) G G'->Ae w G cs vs->Ae w' G' cs vs
 | [],[],_,_=>by simp only [Ae]
 | [],_::_,_,h=>by simp only [Ae]at h
 | _::_,[],_,h=>by simp only [Ae]at h
 | c::cs,v::vs,ha,h=>by
   simp only [Ae]at h ⊢;exact⟨Ab.mono hk c v (fun id hid=>ha id (by simp_all [Bm])) h.1,
    Ae.mono hk cs vs (fun id hid=>ha id (by simp_all [Bm])) h.2⟩
end
mutual
def V.g_ (id:Ad):V->Bool
 | .c x=>x.g_ id
 | .agg cs=>Bm id cs
 | .tup vs=>Ij id vs
 | .g b v=>v.g_ id&&b
 | .undef =>false
def Ij (id:Ad):List V->Bool
 | []=>false
 | v::vs=>v.g_ id||Ij id vs
end
mutual
theorem Aa.mono {w w':World} {G G':Ax} (hk:BE G G' w w'): ∀ (x:V) (v:Value),GJ (fun id=>x.g_ id=true) G G'->Aa w G x v->Aa w' G' x v
 | .c x,v,ha,h=>by grind [Aa,Ab.mono,V.g_]
 | .agg cs,v,ha,h=>by grind [Aa,Ae.mono,V.g_]
 | .tup vs,v,ha,h=>by simp only [Aa]at h ⊢;obtain⟨arr,e,hr⟩:=h;exact⟨arr,e,Ao.mono hk vs _ (by simpa only [V.g_] using ha) hr⟩
 | .g b x,v,ha,h=>by
   simp only [Aa]at h ⊢;split
   ·rename_i hb;rw [if_pos hb]at h;exact Aa.mono hk x v (fun id hid=>ha id (by simp only [V.g_,hb,hid,Bool.and_self])) h
   grind
 | .undef,_,_,_=>by simp only [Aa]
theorem Ao.mono {w w':World} {G G':Ax} (hk:BE G G' w w'): ∀ (xs:List V) (vs:List Value),GJ (fun id=>Ij id xs=true) G G'->Ao w G xs vs->Ao w' G' xs vs
 | [],_,_,h=>by grind [Ao]
 | x::xs,vs,ha,h=>by
   simp only [Ao]at h ⊢;obtain⟨v,r,e,h1,h2⟩:=h;exact⟨v,r,e,Aa.mono hk x v (fun id hid=>ha id (by simp_all [Ij])) h1,
    Ao.mono hk xs r (fun id hid=>ha id (by simp_all [Ij])) h2⟩
end
theorem Ae.length {w:World} {G:Ax}: ∀ {cs:List C} {vs:List Value},Ae w G cs vs->cs.length=vs.length
 | [],[],_=>rfl
 | [],_::_,h=>by simp only [Ae]at h
 | _::_,[],h=>by simp only [Ae]at h
 | c::cs,v::vs,h=>by simp only [Ae]at h;simp [Ae.length h.2]
theorem Ae.get {w:World} {G:Ax}: ∀ {cs:List C} {vs:List Value},Ae w G cs vs-> ∀ (i:Nat) (c:C),cs[i]? =some c-> ∃ v,vs[i]? =some v/\Ab w G c v
 | [],[],_,i,c,hc=>by simp at hc
 | [],_::_,h,_,_,_=>by grind
 | _::_,[],h,_,_,_=>by simp only [Ae]at h
 | c::cs,v::vs,h,i,d,hd=>by
   simp only [Ae]at h;cases i with
   | zero=>simp at hd;subst hd;exact⟨v,by simp,h.1⟩
   | succ i=>simp at hd;obtain⟨v',h1,h2⟩:=Ae.get h.2 i d hd;exact⟨v',by simpa using h1,h2⟩
theorem Ae.one {w:World} {G:Ax}: ∀ {cs:List C} {vs:List Value},Ae w G cs vs-> ∀ v∈vs,v.oneCell'=true
 | [],[],_,v,hv=>by cases hv
 | [],_::_,h,_,_=>by simp only [Ae]at h
 | _::_,[],h,_,_=>by grind
 | c::cs,v::vs,h,u,hu=>by
   simp only [Ae]at h;rcases List.mem_cons.1 hu with rfl | hu
   ·exact Ab.one h.1
   ·exact Ae.one h.2 u hu
theorem Ae.drop {w:World} {G:Ax}: ∀ {cs:List C} {vs:List Value},Ae w G cs vs-> ∀ n,Ae w G (cs.drop n) (vs.drop n)
 | cs,vs,h,0=>by grind
 | [],[],h,n+1=>by simp [Ae]
 | [],_::_,h,_+1=>by simp only [Ae]at h
 | _::_,[],h,_+1=>by simp only [Ae]at h
 | c::cs,v::vs,h,n+1=>by simp only [Ae]at h;simpa using Ae.drop h.2 n
theorem Ae.take {w:World} {G:Ax}: ∀ {cs:List C} {vs:List Value},Ae w G cs vs-> ∀ n,Ae w G (cs.take n) (vs.take n)
 | cs,vs,h,0=>by simp [Ae]
 | [],[],h,n+1=>by simp [Ae]
 | [],_::_,h,_+1=>by simp only [Ae]at h
 | _::_,[],h,_+1=>by simp only [Ae]at h
 | c::cs,v::vs,h,n+1=>by simp only [Ae]at h;simp only [List.take_succ_cons,Ae];exact⟨h.1,Ae.take h.2 n⟩
theorem Ae.append {w:World} {G:Ax}: ∀ {cs:List C} {vs:List Value} {ds:List C} {us:List Value},Ae w G cs vs->Ae w G ds us->Ae w G (cs++ds) (vs++us)
 | [],[],_,_,_,h'=>by grind
 | [],_::_,_,_,h,_=>by simp only [Ae]at h
 | _::_,[],_,_,h,_=>by simp only [Ae]at h
 | c::cs,v::vs,ds,us,h,h'=>by simp only [Ae]at h;simp only [cons_append,Ae];exact⟨h.1,Ae.append h.2 h'⟩
theorem Ai.list {w:World} {G:Ax}: ∀ {cs:List C} {b off:Nat},Ai w G cs b off-> ∃ vs,Ae w G cs vs/\w.rangeAt b off vs
 | [],b,off,_=>⟨[],by simp only [Ae],fun j v h=>by simp at h⟩
 | c::cs,b,off,h=>by
   simp only [Ai]at h;obtain⟨⟨v,hv,hr⟩,ad_⟩:=h;obtain⟨vs,h1,h2⟩:=Ai.list ad_;refine⟨v::vs,by simp only [Ae];exact⟨hr,h1⟩,fun j u hu=>?_⟩;cases j with
   | zero=>simp at hu;subst hu;simpa using hv
   | succ j=>simp at hu;have:=h2 j u hu;rw [show off+(j+1)=off+1+j by omega];exact this
theorem Ai.U_ {w:World} {G:Ax}: ∀ {cs:List C} {vs:List Value} {b off:Nat},Ae w G cs vs->w.rangeAt b off vs->Ai w G cs b off
 | [],[],b,off,_,_=>by simp only [Ai]
 | [],_::_,_,_,h,_=>by simp only [Ae]at h
 | _::_,[],_,_,h,_=>by simp only [Ae]at h
 | c::cs,v::vs,b,off,h,hr=>by simp only [Ae]at h;simp only [Ai];refine⟨⟨v,by simpa using hr 0 v (by simp),h.1⟩,Ai.U_ h.2 (fun j u hu=>?_)⟩;have:=hr (j+1) u (by simpa using hu);rw [show off+1+j=off+(j+1) by omega];exact this
theorem Ai.drop {w:World} {G:Ax} {cs:List C} {b off:Nat} (h:Ai w G cs b off) (n:Nat):Ai w G (cs.drop n) b (off+n):=by obtain⟨vs,h1,h2⟩:=h.list;refine Ai.U_ (h1.drop n) (fun j v hv=>?_);rw [List.getElem?_drop]at hv;have:=h2 _ v hv;grind
theorem Ai.take {w:World} {G:Ax} {cs:List C} {b off:Nat} (h:Ai w G cs b off) (n:Nat):Ai w G (cs.take n) b off:=by
 obtain⟨vs,h1,h2⟩:=h.list;refine Ai.U_ (h1.take n) (fun j v hv=>?_);rw [List.getElem?_take]at hv;split at hv
 ·exact h2 j v hv
 ·cases hv
end Go.PL
namespace Go.PL
open Go Go.RowKit
structure Ar where
 id:Ad
 row:Option (TypeId×Nat×Nat)
 cs:List C
 pu:Bool:=false
structure St where
 tm:List V
 so:List Ar
 gh:List V:=[]
 pre:Ad:=[]
structure Fr where
 w0:World
 av:Nat->Prop
 Tc:Nat->Prop
 I:World->Prop
 gv:List Value:=[]
def Ach (kv:List (Int×Int)) (es:List MapEntry):Prop:=
 es=kv.zipIdx.map fun p=>⟨.int .i64 p.1.1, .int .i64 p.1.2,p.2⟩
def p7 (w:World) (G:Ax) (cs:List C) (b:Nat):Prop:=
 (∃ kv es,cs=[.mp kv]/\w.heap[b]? =some (.map es kv.length)/\Ach kv es.toList/\(kv.map (·.1)).Nodup)\/
 (∃ T cur,w.heap[b]? =some (.cells cur T (0,0))/\cur.size=cs.length/\Ai w G cs b 0)
def Zo:List C->Bool
 | [.mp _]=>true
 | _=>false
theorem p7.cells {w:World} {G:Ax} {cs:List C} {b:Nat} (h:p7 w G cs b) (hn:Zo cs=false): ∃ T cur,w.heap[b]? =some (.cells cur T (0,0))/\cur.size=cs.length/\Ai w G cs b 0:=by
 rcases h with ⟨kv,es,rfl,_⟩ | h
 ·cases hn
 ·exact h
def AN (w:World) (G:Ax) (e:Ar):Prop:=
 match e.row with
 | none=> ∃ b,G.blk e.id=some b/\p7 w G e.cs b
 | some (E,n,len)=>e.cs.length=len*n/\ ∃ v,G.own e.id=some v/\
  ((∃ p,v= .slice p 0 0/\len=0/\G.blk e.id=none)\/
   ∃ b cap cur,v= .slice (some ⟨b,0,none⟩) len cap/\G.blk e.id=some b/\w.heap[b]? =some (.cells cur E (0,0))/\len<=cap/\cap<=maxLen/\cur.size=cap*n/\Ai w G e.cs b 0)
def Cf:Ad->Bool
 | []=>false
 | d::_=>Nat.beq d 1000007
def DF:Ad->Bool
 | []=>false
 | d::_=>Nat.beq d 1000003
def Bi (k:Nat) (id:Ad):Ad:=1000007::k::id
theorem NR {k j:Nat} {a b:Ad} (h:Bi k a=Bi j b):k=j/\a=b:=by grind [Bi]
theorem cx (k:Nat) (id:Ad):Cf (Bi k id)=true:=rfl
def Dw (w:World) (G:Ax) (e:Ar):Prop:=
 ∀ k E n len cs,e.cs[k]? =some (.isl E n len cs)->Al cs=true/\AN w G ⟨Bi k e.id,some (E,n,len),cs,true⟩/\
   ∃ b v,G.blk e.id=some b/\w.cell? ⟨b,k,none⟩=some v/\G.own (Bi k e.id)=some v
def A8 (w:World) (G:Ax) (e:Ar):Prop:=Cf e.id=false/\(DF e.id=true->e.pu=true/\e.row.isSome=true/\Dw w G e)
structure R (F:Fr) (st:St) (a:Act) (w:World) (G:Ax):Prop where
 dfr:a.defers=[]
 size:a.tmps.size=st.tm.length
 slots: ∀ i,Aa w G (st.tm.getD i .undef) (a.tmps.getD i Go.undef)
 t_:Ao w G st.gh F.gv
 store: ∀ e∈st.so,AN w G e
 deep: ∀ e∈st.so,A8 w G e
 k_: ∀ e∈st.so,e.pu=true->Al e.cs=true
 nodup:(st.so.map (·.id)).Nodup
 inj: ∀ i j b,G.blk i=some b->G.blk j=some b->i=j
 lt: ∀ i b,G.blk i=some b->b<w.heap.size
 new: ∀ i b,G.blk i=some b->F.w0.heap.size<=b\/F.Tc b
 wr: ∀ b,G.wr b↔F.av b\/ ∃ i,G.blk i=some b
 Tu: ∀ b,F.av b->b<F.w0.heap.size
 inv: ∀ w',F.w0.heap.size<=w'.heap.size->(∀ b,b<F.w0.heap.size-> ¬F.Tc b->w'.heap[b]? =F.w0.heap[b]?)->F.I w'
 Kq: ∀ b,F.Tc b-> ¬F.av b
 os:w.os=F.w0.os
 tape:w.tape=F.w0.tape
 output:w.output=F.w0.output
 hsize:F.w0.heap.size<=w.heap.size
 ext: ∀ b,b<F.w0.heap.size-> ¬F.Tc b->w.heap[b]? =F.w0.heap[b]?
def St.get (st:St) (t:Nat):V:=st.tm.getD t .undef
def St.put (st:St) (d:Option Nat) (v:V):St:=
 match d with
 | some d=>{st with tm:=st.tm.set d v}
 | none=>st
def B3:Value->Option C
 | .int k n=>some (.int k n)
 | .bool b=>some (.bool b)
 | .string s=>some (.str s.data.toList)
 | .pointer none=>some .aaJ
 | .nilIface =>some .K_
 | .slice none 0 0=>some (.sl 0 [])
 | .map none=>some .any
 | _=>none
def CY:List Value->Option (List C)
 | []=>some []
 | v::vs=>match B3 v,CY vs with
   | some c,some cs=>some (c::cs)
   | _,_=>none
def Jn:Value->V
 | .agg cs=>match CY cs.toList with
   | some l=> .agg l
   | none=> .undef
 | v=>match B3 v with
   | some c=> .c c
   | none=> .undef
def St.ev (st:St):Operand->V
 | .tmp t=>st.get t
 | .const v=>Jn v
 | .func f=> .c (.fn f)
 | .global _=> .undef
def St.arg (st:St) (g:Bool) (x:Operand):Prop×V:=
 match st.ev x with
 | .g c v=>(g=true->c=true,v)
 | v=>(True,v)
theorem MZ {w:World} {G:Ax}: ∀ {v:Value} {c:C},B3 v=some c->Ab w G c v:=by
 intro v c h;unfold B3 at h;split at h<;>first | (cases h;done) | (injection h with h;subst h;simp [Ab];try rfl)
 ·exact⟨rfl,none,0,⟨rfl,rfl⟩,by grind⟩
theorem DW {w:World} {G:Ax}: ∀ {vs:List Value} {cs:List C},CY vs=some cs->Ae w G cs vs
 | [],cs,h=>by grind [CY,Ae]
 | v::vs,cs,h=>by
   unfold CY at h;split at h
   ·rename_i c Tk h1 h2;injection h with h;subst h;simp only [Ae];exact⟨MZ h1,DW h2⟩
   ·cases h
theorem Zp {w:World} {G:Ax} (v:Value):Aa w G (Jn v) v:=by
 unfold Jn;split
 ·split
  ·rename_i h;simp only [Aa];exact⟨_,rfl,DW h⟩
  ·simp only [Aa]
 grind [Aa,MZ]
theorem R.ev {F:Fr} {st:St} {a:Act} {w:World} {G:Ax} (h:R F st a w G) (x:Operand):Aa w G (st.ev x) (a.eval x):=by
 cases x with
 | tmp t=>exact h.slots t
 | const v=>exact Zp v
 | func f=>simp [St.ev,Act.eval,Aa,Ab]
 | global g=>simp [St.ev,Aa]
theorem R.arg {F:Fr} {st:St} {a:Act} {w:World} {G:Ax} (h:R F st a w G) {g:Bool} (hg:g=true) {x:Operand} (hs:(st.arg g x).1):Aa w G (st.arg g x).2 (a.eval x):=by
 have:=h.ev x;unfold St.arg at *;split at hs
 all_goals simp_all [Aa]
def FW (P:Program) (t:TypeId):Option (Bool×Nat):=
 match P.underlying t,P.info? t with
 | some d,some i=>some (d.isRow,i.size)
 | _,_=>none
def Ck (P:Program) (t:TypeId):Option (TypeId×Nat):=
 match P.underlying t with
 | some (.slice e)=>match P.info? e with
   | some i=>some (e,i.size)
   | none=>none
 | _=>none
def C6 (P:Program) (t:TypeId):Option (Nat×TypeId×Nat):=
 match P.underlying t with
 | some (.array n e)=>match P.info? e with
   | some i=>some (n,e,i.size)
   | none=>none
 | _=>none
def nm (P:Program) (t:TypeId) (f:Nat):Option (Nat×Bool×Nat):=
 match P.underlying t with
 | some (.struct fs)=>match fs[f]? with
   | some x=>match FW P x.type with
     | some (ag,n)=>some (x.offset,ag,n)
     | none=>none
   | none=>none
 | _=>none
def Cb (P:Program) (t:TypeId):Bool:=
 match P.underlying t with
 | some .string =>true
 | _=>false
theorem Bw {P:Program} {t:TypeId} {ag:Bool} {n:Nat} (h:FW P t=some (ag,n)): ∃ d i,P.underlying t=some d/\d.isRow=ag/\P.info? t=some i/\i.size=n:=by grind [FW]
theorem B4 {P:Program} {t e:TypeId} {n:Nat} (h:Ck P t=some (e,n)):P.underlying t=some (.slice e)/\ ∃ i,P.info? e=some i/\i.size=n:=by unfold Ck at h;grind
theorem EL {P:Program} {t e:TypeId} {k n:Nat} (h:C6 P t=some (k,e,n)):P.underlying t=some (.array k e)/\ ∃ i,P.info? e=some i/\i.size=n:=by unfold C6 at h;grind
structure Ca (w w':World):Prop where
 size:w.heap.size<=w'.heap.size
 block: ∀ b,b<w.heap.size->w'.heap[b]? =w.heap[b]?
theorem Ca.refl (w:World):Ca w w:=⟨le_refl _,fun _ _=>rfl⟩
theorem Ca.trans {a b c:World} (h:Ca a b) (k:Ca b c):Ca a c:=
 ⟨le_trans h.size k.size,fun x hx=>(k.block x (lt_of_lt_of_le hx h.size)).trans (h.block x hx)⟩
theorem Ca.cell {w w':World} (h:Ca w w') {p:Addr} {v:Value} (hv:w.cell? p=some v):w'.cell? p=some v:=by have hb:p.block<w.heap.size:=World.block_lt_of_cell? w p hv;rw [World.cell?_of_block (h.block p.block hb)];exact hv
theorem Ca.range {w w':World} (h:Ca w w') {b o:Nat} {vs:List Value} (hv:w.rangeAt b o vs):w'.rangeAt b o vs:=
 fun j v hj=>h.cell (hv j v hj)
def Ar.isM (e:Ar):Bool:=match e.row with
 | none=>Zo e.cs
 | some _=>false
def St.look (st:St) (id:Ad):Option Ar:=st.so.find? (fun e=>e.id==id&& !(e.isM||DF e.id))
def St.aaP (st:St) (id:Ad):Option Ar:=st.so.find? (fun e=>e.id==id&& !e.isM)
theorem Px {st:St} {id:Ad} {e:Ar} (h:st.aaP id=some e):e∈st.so/\e.id=id:=
 ⟨List.mem_of_find?_eq_some h,by have:=find?_some h;grind⟩
theorem p8 {st:St} {id:Ad} {e:Ar} (h:st.aaP id=some e) (hr:e.row=none):Zo e.cs=false:=by have:=find?_some h;simp_all [Ar.isM]
theorem AZ {st:St} {id:Ad} {e:Ar} (h:st.look id=some e):e∈st.so/\e.id=id:=
 ⟨List.mem_of_find?_eq_some h,by have:=find?_some h;grind⟩
theorem Sw {st:St} {id:Ad} {e:Ar} (h:st.look id=some e) (hr:e.row=none):Zo e.cs=false:=by have:=find?_some h;simp_all [Ar.isM]
theorem DP {st:St} {id:Ad} {e:Ar} (h:st.look id=some e):DF id=false:=by have h1:=(AZ h).2;have:=find?_some h;grind
theorem AN.row {w:World} {G:Ax} {e:Ar} (h:AN w G e) (hnm:e.row=none->Zo e.cs=false) {b:Nat} (hb:G.blk e.id=some b):
 ∃ cur T,w.heap[b]? =some (.cells cur T (0,0))/\e.cs.length<=cur.size/\Ai w G e.cs b 0:=by
 unfold AN at h;split at h
 ·rename_i hrn;obtain⟨b',h1,hbx⟩:=h;obtain⟨T,cur,h2,h3,h4⟩:=hbx.cells (hnm hrn);grind
 ·obtain⟨hl,v,h1,h2 | ⟨b',cap,cur,e1,e2,e3,e4,e5,e6,e7⟩⟩:=h
  all_goals simp_all [Nat.mul_le_mul_right]
def toV (ag:Bool) (off n:Nat) (cs:List C):V:=if ag then .agg ((cs.drop off).take n)else .c (cs.getD off .any)
def CM (P:Program) (t:TypeId) (st:St):V->Prop×V
 | .c (.ptr id off)=>match FW P t,st.aaP id with
   | some (ag,n),some e=>(off+n<=e.cs.length/\(ag=true\/0<n),toV ag off n e.cs)
   | _,_=>(False, .undef)
 | .c (.aaq cs off)=>match FW P t with
   | some (ag,n)=>(off+n<=cs.length/\(ag=true\/0<n),toV ag off n cs)
   | _=>(False, .undef)
 | _=>(False, .undef)
theorem Cv {P:Program} {w:World} {b o:Nat} {ty:TypeId} {v:Value} {d:TypeDesc} (hu:P.underlying ty=some d) (hd:d.isRow=false) (hc:w.cell? ⟨b,o,none⟩=some v):
 (Instr.loadAt ty (.pointer (some ⟨b,o,none⟩))).run P w= .ok v w:=by
 have amd:(isAgg ty).run P w= .ok false w:=by unfold isAgg;rw [Sem.run_bind,run_underlying hu w];cases d<;>simp_all
 simp_all [Instr.loadAt,Instr.sureAddr,loadVar]
theorem SY {P:Program} {w:World} {G:Ax} {cs:List C} {b o off n:Nat} {ty:TypeId} {ag:Bool} (hr:Ai w G cs b o) (ht:FW P ty=some (ag,n)) (hn:off+n<=cs.length) (h0:ag=true\/0<n):
 ∃ v,Aa w G (toV ag off n cs) v/\ ∀ w',Ca w w'->(Instr.loadAt ty (.pointer (some ⟨b,o+off,none⟩))).run P w'= .ok v w':=by
 obtain⟨d,i,hu,hd,hi,Tr⟩:=Bw ht;obtain⟨vs,h1,h2⟩:=hr.list;unfold toV;cases hag:ag with
 | true=>
   refine⟨.agg ((vs.drop off).take n).toArray,?_,fun w' hw'=>?_⟩
   ·exact⟨_,rfl,by simpa using (h1.drop off).take n⟩
   ·refine run_loadAt_mid w' b (o+off) ty ((vs.drop off).take n) d ?_ hu (by rw [hd,hag]) ?_
    ·intro j v hv;rw [List.getElem?_take]at hv;split at hv
     ·rw [List.getElem?_drop]at hv;have:=(hw'.range h2) _ v hv;grind
     ·cases hv
    ·simp [hi,Tr, <-h1.length];omega
 | false=>
   have Ho:0<n:=by grind
   have Tw:off<cs.length:=by omega
   obtain⟨v,hv,hr'⟩:=h1.get off cs[off] (by simp [Tw]);refine⟨v,?_,fun w' hw'=>?_⟩
   ·grind [Aa]
   ·exact Cv hu (by rw [hd,hag]) (by simpa using (hw'.range h2) off v hv)
theorem KJ {P:Program} {F:Fr} {st:St} {a:Act} {w:World} {G:Ax} (h:R F st a w G) {t:TypeId} {x:V} {u:Value} (hx:Aa w G x u) (hs:(CM P t st x).1):
 ∃ v,Aa w G (CM P t st x).2 v/\ ∀ w',Ca w w'->(Instr.loadAt t u).run P w'= .ok v w':=by
 unfold CM at *;split at hs
 ·rename_i id off;split at hs
  ·rename_i ag n e ht he;simp only [Aa,Ab]at hx;obtain⟨b,hb,rfl⟩:=hx;obtain⟨hm,hid⟩:=Px he;obtain⟨cur,T,_,_,m_⟩:=(h.store e hm).row (p8 he) (by rw [hid];exact hb);grind [SY]
  grind
 ·rename_i cs off;split at hs
  ·rename_i ag n ht;simp only [Aa,Ab]at hx;obtain⟨_,b,o,rfl,_,_,m_⟩:=hx;grind [SY]
  grind
 grind
end Go.PL
namespace Go.PL
open Go Go.RowKit
def Py (P:Program) (t:TypeId):Bool:=
 match P.underlying t with
 | some .bool =>true
 | _=>false
def KG (k:IntKind) (a b:Int):Int:=k.wrap (BitVec.ofInt k.bits a&&& BitVec.ofInt k.bits b).toNat
def bOr (k:IntKind) (a b:Int):Int:=k.wrap (BitVec.ofInt k.bits a||| BitVec.ofInt k.bits b).toNat
def Zq (k:IntKind) (a b:Int):Int:=k.wrap (BitVec.ofInt k.bits a ^^^ BitVec.ofInt k.bits b).toNat
def Zr (k:IntKind) (a b:Int):Int:=k.wrap (BitVec.ofInt k.bits a&&& ~~~ BitVec.ofInt k.bits b).toNat
def Fp (op:BinOp) (k:IntKind) (a b:Int):Prop×C:=
 match op with
 | .add =>(True, .int k (k.wrap (a+b)))
 | .sub =>(True, .int k (k.wrap (a - b)))
 | .mul =>(True, .int k (k.wrap (a*b)))
 | .quo =>(b ≠ 0, .int k (k.wrap (a.tdiv b)))
 | .rem =>(b ≠ 0, .int k (a.tmod b))
 | .and =>(True, .int k (KG k a b))
 | .or =>(True, .int k (bOr k a b))
 | .xor =>(True, .int k (Zq k a b))
 | .andNot =>(True, .int k (Zr k a b))
 | .shl =>(0<=b, .int k (k.wrap (a*2 ^ (min b.toNat k.bits))))
 | .shr =>(0<=b, .int k (a.fdiv (2 ^ (min b.toNat k.bits))))
 | .eql =>(True, .bool (a==b))
 | .neq =>(True, .bool (a != b))
 | .lss =>(True, .bool (decide (a<b)))
 | .leq =>(True, .bool (decide (a<=b)))
 | .gtr =>(True, .bool (decide (b<a)))
 | .geq =>(True, .bool (decide (b<=a)))
def FX (op:BinOp) (a b:List UInt8):Prop×C:=
 match op with
 | .add =>(a.length+b.length<=maxLen, .str (a++b))
 | .eql =>(True, .bool (a==b))
 | .neq =>(True, .bool (a != b))
 | .lss =>(True, .bool (Op.bytesLess a b))
 | .leq =>(True, .bool (Op.bytesLess a b||a==b))
 | .gtr =>(True, .bool (!(Op.bytesLess a b||a==b)))
 | .geq =>(True, .bool (!Op.bytesLess a b))
 | _=>(False, .any)
def IL (op:BinOp) (k k':IntKind):Prop:=
 match op with
 | .shl | .shr =>True
 | _=>k=k'
def F3 (P:Program) (t:TypeId):Bool:=
 match P.underlying t with
 | some (.interface _)=>true
 | _=>false
def GK (P:Program) (t:TypeId):Bool:=
 match P.underlying t with
 | some (.pointer _)=>true
 | _=>false
def IM (op:BinOp) (b:Bool) (s:Prop):Prop×V:=
 match op with
 | .eql =>(s, .c (.bool b))
 | .neq =>(s, .c (.bool !b))
 | _=>(False, .undef)
def AU:Operand->Bool
 | .const _=>true
 | _=>false
def R6 (P:Program) (op:BinOp) (t:TypeId) (k:Bool):V->V->Prop×V
 | .c (.int k a), .c (.int k' b)=>(IL op k k'/\(Fp op k a b).1, .c (Fp op k a b).2)
 | .c (.str a), .c (.str b)=>((FX op a b).1, .c (FX op a b).2)
 | .c (.bool a), .c (.bool b)=>match op with
   | .eql =>(Py P t=true, .c (.bool (a==b)))
   | .neq =>(Py P t=true, .c (.bool (a != b)))
   | _=>(False, .undef)
 | .c .K_, .c .K_ =>IM op true (k=true/\F3 P t=true)
 | .c .held, .c .K_ =>IM op false (F3 P t=true)
 | .c (.ptr _ _), .c .aaJ =>IM op false (GK P t=true)
 | .c (.aaq _ _), .c .aaJ =>IM op false (GK P t=true)
 | .c .aaJ, .c .aaJ =>IM op true (GK P t=true)
 | _,_=>(False, .undef)
theorem Jo {P:Program} {t:TypeId} (h:F3 P t=true): ∃ ms,P.underlying t=some (.interface ms):=by grind [F3]
theorem GM {P:Program} {t:TypeId} (h:GK P t=true): ∃ e,P.underlying t=some (.pointer e):=by grind [GK]
theorem HM {P:Program} {t:TypeId} (h:Py P t=true):P.underlying t=some .bool :=by grind [Py]
theorem B5 {P:Program} {t:TypeId} (h:Cb P t=true):P.underlying t=some .string :=by grind [Cb]
theorem SZ (a:List UInt8):(⟨a.toArray⟩:ByteArray).size =a.length:=by simp [ByteArray.size]
def Fq:C->Value
 | .int k n=> .int k n
 | .bool b=> .bool b
 | .str s=> .string ⟨s.toArray⟩
 | .aaJ => .pointer none
 | .K_ => .nilIface
 | .fn f=> .func (.func f) #[] #[]
 | _=>Go.undef
def C.flat:C->Bool
 | .int .. | .bool _ | .str _ | .aaJ | .K_ | .fn _=>true
 | _=>false
theorem AD {w:World} {G:Ax} {c:C} (hc:c.flat=true) {v:Value}:Ab w G c v↔v=Fq c:=by cases c<;>simp_all [C.flat,Ab,Fq]
theorem Pz {P:Program} {op:BinOp} {t:TypeId} {k k':IntKind} {x y:Int} {ox oy:Operand} (h1:IL op k k') (h2:(Fp op k x y).1) (w:World):
 (do eqGuard op t ox oy (.int k x) (.int k' y);binOp op t (.int k x) (.int k' y)).run P w= .ok (Fq (Fp op k x y).2) w/\(Fp op k x y).2.flat =true:=by
 refine⟨?_,by cases op<;>rfl⟩;cases op<;>simp only [IL,Fp]at h1 h2<;>(try subst h1)<;>simp only [Fp,Fq]<;>
  first
   | (simp [eqGuard,binOp,Op.intArith,Op.intDiv,Op.intBits,Op.intCmp,h2,KG,bOr,Zq,Zr];done)
   | (have h3: ¬y<0:=by omega
      simp [eqGuard,binOp,Op.shift,h3])
theorem PA {P:Program} {op:BinOp} {t:TypeId} {x y:List UInt8} {ox oy:Operand} (h2:(FX op x y).1) (w:World):
 (do eqGuard op t ox oy (.string ⟨x.toArray⟩) (.string ⟨y.toArray⟩);binOp op t (.string ⟨x.toArray⟩) (.string ⟨y.toArray⟩)).run P w= .ok (Fq (FX op x y).2) w/\(FX op x y).2.flat =true:=by
 cases op<;>simp only [FX]at h2<;>refine⟨?_,rfl⟩<;>simp only [FX,Fq]
 case add=>
  have h3: ¬((x.length+y.length:Nat):Int)>IntKind.i64.max:=by
   have:IntKind.i64.max=9223372036854775807:=by decide
   grind [maxLen]
  simp only [eqGuard,binOp,Op.stringOp,SZ];rw [if_neg h3];have e:(⟨x.toArray⟩++⟨y.toArray⟩:ByteArray)=⟨(x++y).toArray⟩:=by apply ByteArray.ext;simp
  simp [e]
 all_goals simp_all [eqGuard,binOp,Op.stringOp,bne]
theorem D6 {P:Program} {op:BinOp} {t:TypeId} {u v:Value} {b:Bool} {s:Prop} {w:World} {G:Ax} {ox oy:Operand} (hs:(IM op b s).1) (afq:(∀ k a,u ≠ .int k a)/\(∀ k a,u ≠ .float k a)/\(∀ k a c,u ≠ .complex k a c)/\(∀ a,u ≠ .string a))
 (hg:s-> ∀ w',(eqGuard op t ox oy u v).run P w'= .ok () w') (he:s-> ∀ w',(Op.equal t u v).run P w'= .ok b w'):
 ∃ r,Aa w G (IM op b s).2 r/\ ∀ w',(do eqGuard op t ox oy u v;binOp op t u v).run P w'= .ok r w':=by
 unfold IM at *;obtain⟨h1,h2,h3,h4⟩:=afq;split at hs
 ·refine⟨.bool b,(AD rfl).2 rfl,fun w'=>?_⟩;simp_all [binOp]
 ·refine⟨.bool !b,(AD rfl).2 rfl,fun w'=>?_⟩;simp_all [binOp]
 grind
theorem nq {P:Program} (d:Nat) {t u:TypeId} {x:Value} {ms:Array (String×TypeId)} (h:P.underlying t=some (.interface ms)) (w:World):(Op.equalIn (d+1) t (.iface u x) .nilIface).run P w= .ok false w:=by simp [Op.equalIn,run_underlying h]
theorem uU {P:Program} (d:Nat) {t:TypeId} {ms:Array (String×TypeId)} (h:P.underlying t=some (.interface ms)) (w:World):(Op.equalIn (d+1) t .nilIface .nilIface).run P w= .ok true w:=by simp [Op.equalIn,run_underlying h]
theorem uV {P:Program} (d:Nat) {t e:TypeId} {a:Addr} (h:P.underlying t=some (.pointer e)) (w:World):(Op.equalIn (d+1) t (.pointer (some a)) (.pointer none)).run P w= .ok false w:=by simp [Op.equalIn,run_underlying h]
theorem uW {P:Program} (d:Nat) {t e:TypeId} (h:P.underlying t=some (.pointer e)) (w:World):(Op.equalIn (d+1) t (.pointer none) (.pointer none)).run P w= .ok true w:=by simp [Op.equalIn,run_underlying h]
theorem S0 {P:Program} {t u:TypeId} {x:Value} {ms:Array (String×TypeId)} (h:P.underlying t=some (.interface ms)) (w:World):(Op.equal t (.iface u x) .nilIface).run P w= .ok false w:=nq 9999 h w
theorem NS {P:Program} {t:TypeId} {ms:Array (String×TypeId)} (h:P.underlying t=some (.interface ms)) (w:World):(Op.equal t .nilIface .nilIface).run P w= .ok true w:=uU 9999 h w
theorem Jp {P:Program} {t e:TypeId} {a:Addr} (h:P.underlying t=some (.pointer e)) (w:World):(Op.equal t (.pointer (some a)) (.pointer none)).run P w= .ok false w:=uV 9999 h w
theorem NT {P:Program} {t e:TypeId} (h:P.underlying t=some (.pointer e)) (w:World):(Op.equal t (.pointer none) (.pointer none)).run P w= .ok true w:=uW 9999 h w
theorem ic {P:Program} {op:BinOp} {t:TypeId} {x y:V} {u v:Value} {w:World} {G:Ax} {ox oy:Operand} (hx:Aa w G x u) (hy:Aa w G y v) (hs:(R6 P op t (AU ox||AU oy) x y).1):
 ∃ r,Aa w G (R6 P op t (AU ox||AU oy) x y).2 r/\ ∀ w',(do eqGuard op t ox oy u v;binOp op t u v).run P w'= .ok r w':=by
 unfold R6 at *;split at hs
 ·simp only [Aa,Ab]at hx hy;subst hx hy;exact⟨_,by simp only [Aa];exact(AD (Pz (P:=P) (t:=t) (ox:=ox) (oy:=oy) hs.1 hs.2 w).2).2 rfl,fun w'=>(Pz hs.1 hs.2 w').1⟩
 ·simp only [Aa,Ab]at hx hy;subst hx hy;exact⟨_,by simp only [Aa];exact(AD (PA (P:=P) (t:=t) (ox:=ox) (oy:=oy) hs w).2).2 rfl,fun w'=>(PA hs w').1⟩
 ·simp only [Aa,Ab]at hx hy;subst hx hy;split at hs
  ·exact⟨_,(AD rfl).2 rfl,(by grind [eqGuard,run_eql_bool,HM,Fq])⟩
  ·exact⟨_,(AD rfl).2 rfl,(by grind [eqGuard,run_neq_bool,HM,Fq])⟩
  grind
 ·simp only [Aa,Ab]at hx hy;subst hx hy;refine D6 hs (by simp) (fun q w'=>?_) (fun q w'=>?_)
  ·have hk:=q.1;cases ox<;>cases oy<;>simp_all [AU,eqGuard]<;>(try (split<;>rfl))
  grind [Jo,NS]
 ·simp only [Aa,Ab]at hx hy;obtain⟨t',x',rfl⟩:=hx;subst hy;refine D6 hs (by simp) (fun q w'=>?_) (fun q w'=>?_)
  ·simp_all [eqGuard]
  grind [Jo,S0]
 ·simp only [Aa,Ab]at hx hy;obtain⟨b,_,rfl⟩:=hx;subst hy;refine D6 hs (by simp) (fun q w'=>?_) (fun q w'=>?_)
  ·simp_all [eqGuard]
  grind [GM,Jp]
 ·simp only [Aa,Ab]at hx hy;obtain⟨_,b,o,rfl,_⟩:=hx;subst hy;refine D6 hs (by simp) (fun q w'=>?_) (fun q w'=>?_)
  ·simp_all [eqGuard]
  grind [GM,Jp]
 ·simp only [Aa,Ab]at hx hy;subst hx hy;refine D6 hs (by simp) (fun q w'=>?_) (fun q w'=>?_)
  ·simp_all [eqGuard]
  grind [GM,NT]
 grind
end Go.PL
namespace Go.PL
open Go Go.RowKit
abbrev no:Prop×V:=(False, .undef)
def uQ (op:UnOp):V->Prop×V
 | .c (.int k n)=>match op with
   | .neg =>(True, .c (.int k (k.wrap (0 - n))))
   | .xor =>(True, .c (.int k (Zq k (if k.signed then -1 else k.max) n)))
   | _=>no
 | .c (.bool b)=>match op with
   | .not =>(True, .c (.bool !b))
   | _=>no
 | _=>no
theorem XA {P:Program} {op:UnOp} {x:V} {u:Value} {w:World} {G:Ax} (hx:Aa w G x u) (hs:(uQ op x).1):
 ∃ r,Aa w G (uQ op x).2 r/\ ∀ w',(Op.unary op u).run P w'= .ok r w':=by
 unfold uQ at *;split at hs
 ·simp only [Aa,Ab]at hx;subst hx;split at hs
  ·exact⟨_,(AD rfl).2 rfl,(by simp_all [Op.unary,Op.intArith,Fq])⟩
  ·exact⟨_,(AD rfl).2 rfl,(by simp_all [Op.unary,Op.intBits,Fq,Zq])⟩
  grind
 ·simp only [Aa,Ab]at hx;subst hx;split at hs
  ·exact⟨_,(AD rfl).2 rfl,fun w'=>by simp [Op.unary,Fq]⟩
  grind
 grind
def XB (P:Program) (t:TypeId):Option IntKind:=
 match P.underlying t with
 | some (.int k)=>some k
 | _=>none
theorem S1 {P:Program} {t:TypeId} {k:IntKind} (h:XB P t=some k):P.underlying t=some (.int k):=by grind [XB]
def nr (P:Program) (t:TypeId):Bool:=(P.underlying t).isSome
def bytesOf:List C->Option (List UInt8)
 | []=>some []
 | .int .u8 n::cs=>match bytesOf cs with
   | some bs=>if 0<=n/\n<256 then some (UInt8.ofNat n.toNat::bs)else none
   | none=>none
 | _=>none
def Jq:List C->List UInt8
 | []=>[]
 | .int _ n::cs=>UInt8.ofNat n.toNat::Jq cs
 | _::cs=>Jq cs
def HN:List C->Prop
 | []=>True
 | .int .u8 n::cs=>(0<=n/\n<256)/\HN cs
 | _=>False
theorem S2: ∀ {cs:List C},HN cs->bytesOf cs=some (Jq cs)
 | [],_=>rfl
 | c::cs,h=>by
   unfold HN at h;split at h
   ·cases ‹_=([]:List C)›
   ·rename_i n Tk he;injection he with h1 h2;subst h1 h2;simp [bytesOf,S2 h.2,h.1,Jq]
   ·exact h.elim
def Fs (P:Program) (t:TypeId):Bool:=
 match P.underlying t with
 | some (.slice e)=>match P.underlying e with
   | some (.int .u8)=>true
   | _=>false
 | _=>false
def HO (P:Program) (src dst:TypeId) (st:St):V->Prop×V
 | .c (.int _ n)=>match XB P dst with
   | some k=>(nr P src=true, .c (.int k (k.wrap n)))
   | none=>no
 | .c (.str s)=>(Cb P src=true/\Cb P dst=true, .c (.str s))
 | .c (.l_ id)=>match st.look id with
   | some e=>match e.row with
     | some (_,n,_)=>((Fs P src=true/\Cb P dst=true)/\n=1/\HN e.cs, .c (.str (Jq e.cs)))
     | _=>no
   | none=>no
 | _=>no
theorem PB {P:Program} {t:TypeId} (h:Fs P t=true): ∃ e,P.underlying t=some (.slice e)/\P.underlying e=some (.int .u8):=by grind [Fs]
theorem NU {w:World} {G:Ax}: ∀ {cs:List C} {bs:List UInt8} {vs:List Value},bytesOf cs=some bs->Ae w G cs vs->vs=bs.map (fun b=>Value.int .u8 b.toNat)
 | [],bs,vs,h,hr=>by simp [bytesOf]at h;subst h;cases vs<;>simp_all [Ae]
 | c::cs,bs,vs,h,hr=>by
   cases vs with
   | nil=>simp [Ae]at hr
   | cons v vs=>
     simp only [Ae]at hr;unfold bytesOf at h;split at h
     ·grind
     ·rename_i n Tk he;injection he with h1 h2;subst h1 h2;split at h
      ·rename_i bs' hb;split at h
       ·rename_i hn;injection h with h;subst h;have:=NU hb hr.2;simp only [Ab]at hr;rw [hr.1,this];simp only [map_cons,List.cons.injEq,and_true,Value.int.injEq,true_and];have:(UInt8.ofNat n.toNat).toNat =n.toNat:=by simp;omega
        grind
       ·cases h
      ·cases h
     ·cases h
theorem cy {P:Program} {F:Fr} {st:St} {a:Act} {w:World} {G:Ax} (h:R F st a w G) {src dst:TypeId} {x:V} {u:Value} (hx:Aa w G x u) (hs:(HO P src dst st x).1):
 ∃ r,Aa w G (HO P src dst st x).2 r/\ ∀ w',Ca w w'->(convert src dst u).run P w'= .ok r w':=by
 unfold HO at *;split at hs
 ·simp only [Aa,Ab]at hx;subst hx;split at hs
  ·rename_i k hk;unfold nr at hs;cases hu:P.underlying src with
   | none=>grind
   | some d=>exact⟨_,(AD rfl).2 rfl,(by simp_all [convert,run_underlying,S1,Conv.intToInt,Fq])⟩
  grind
 ·simp only [Aa,Ab]at hx;subst hx;exact⟨_,(AD rfl).2 rfl,(by simp_all [convert,run_underlying,B5,Fq])⟩
 ·rename_i id;split at hs
  ·rename_i e he;split at hs
   ·rename_i E n len m_;obtain⟨hs,rfl,hbs⟩:=hs;have hb:=S2 hbs;generalize Jq e.cs=bs at *;obtain⟨t,hs1,hs2⟩:=PB hs.1;have hd:=B5 hs.2;obtain⟨hm,hid⟩:=AZ he;have hE:=h.store e hm;unfold AN at hE;rw [m_]at hE;obtain⟨hl,v,z_,afV⟩:=hE;simp only [Aa,Ab]at hx;rw [hid]at z_;rw [z_]at hx;obtain⟨hx,_⟩:=hx;injection hx with hx;subst hx;refine⟨.string ⟨bs.toArray⟩,(AD rfl).2 rfl,fun w' hw'=>?_⟩;rcases afV with ⟨p,rfl,h0,_⟩ | ⟨b,cap,cur,rfl,_,_,_,_,_,hr⟩
    ·have:e.cs=[]:=by grind
     rw [this]at hb;simp [bytesOf]at hb;subst hb;cases p with
     | none=>exact run_convert_bytes_nil w' src t hs1 hs2 0 0 dst hd
     | some p=>exact run_convert_bytes_back w' src dst t p 0 [] hs1 hs2 hd (fun j hj=>by simp at hj)
    ·obtain⟨vs,h1,h2⟩:=hr.list;have hv:=NU hb h1;have hlen:bs.length=len:=by have:=h1.length;grind
     rw [<-hlen];refine run_convert_bytes_back w' src dst t ⟨b,0,none⟩ cap bs hs1 hs2 hd ?_;intro j hj;rw [Addr.add_mid];simpa using hw'.range h2 j (.int .u8 bs[j].toNat) (by grind)
   grind
  grind
 grind
theorem S3 {P:Program} {t:TypeId} {f o n:Nat} {ag:Bool} (h:nm P t f=some (o,ag,n)):
 ∃ fs x,P.underlying t=some (.struct fs)/\fs[f]? =some x/\x.offset=o/\FW P x.type=some (ag,n):=by
 unfold nm at h;grind
def Bq (P:Program) (s:TypeId) (f:Nat):V->Prop×V
 | .c (.ptr id off)=>match nm P s f with
   | some (o,_,n)=>(0<n, .c (.ptr id (off+o)))
   | none=>no
 | .c (.aaq cs off)=>match nm P s f with
   | some (o,_,n)=>(0<n, .c (.aaq cs (off+o)))
   | none=>no
 | _=>no
theorem abr {P:Program} {s:TypeId} {f o n:Nat} {ag:Bool} (h:nm P s f=some (o,ag,n)) (hn:0<n) (b off:Nat) (w:World):
 (Instr.fieldAt s (.pointer (some ⟨b,off,none⟩)) f).run P w= .ok (.pointer (some ⟨b,off+o,none⟩)) w:=by
 obtain⟨fs,x,h1,h2,h3,h4⟩:=S3 h;obtain⟨d,i,hu,_,hi,Tr⟩:=Bw h4;simp only [Instr.fieldAt,Sem.run_bind,run_underlying h1,Result.andThen_ok,h2,Instr.sureAddr,Sem.run_pure,fieldPlace,sizeOf,typeInfo];have: ¬i.size=0:=by omega
 simp_all [Addr.add_mid]
theorem IP {P:Program} {s:TypeId} {f:Nat} {x:V} {u:Value} {w:World} {G:Ax} (hx:Aa w G x u) (hs:(Bq P s f x).1):
 ∃ r,Aa w G (Bq P s f x).2 r/\ ∀ w',(Instr.fieldAt s u f).run P w'= .ok r w':=by
 unfold Bq at *;split at hs
 ·split at hs
  ·rename_i o ag n hf;simp only [Aa,Ab]at hx ⊢;obtain⟨b,hb,rfl⟩:=hx;exact⟨_,⟨b,hb,rfl⟩,fun w'=>abr hf hs b _ w'⟩
  grind
 ·split at hs
  ·rename_i o ag n hf;simp only [Aa,Ab]at hx ⊢;obtain⟨hp,b,o',rfl,h1,h2,h3⟩:=hx;exact⟨_,⟨hp,b,o',rfl,h1,h2,h3⟩,fun w'=>by rw [abr hf hs b _ w',Nat.add_assoc]⟩
  grind
 grind
theorem aaW {P:Program} {t:TypeId} {ag:Bool} {n:Nat} (ht:FW P t=some (ag,n)) {w:World} {G:Ax} {cs:List C} {arr:Array Value} (h:Ae w G cs arr.toList) {off:Nat} (hb:off+n<=cs.length) (h0:ag=true\/0<n):
 ∃ r,Aa w G (toV ag off n cs) r/\ ∀ w',(part t arr off).run P w'= .ok r w':=by
 obtain⟨d,i,hu,hd,hi,Tr⟩:=Bw ht;have amd: ∀ w',(isAgg t).run P w'= .ok ag w':=by intro w';unfold isAgg;rw [Sem.run_bind,run_underlying hu w'];cases d<;>simp_all
 have hlen:=h.length;unfold toV;cases hag:ag with
 | true=>
   refine⟨.agg (arr.extract off (off+n)),⟨_,rfl,?_⟩,fun w'=>?_⟩
   ·have:=(h.drop off).take n;simp_all
   simp_all [part,sizeOf,typeInfo]
 | false=>
   have Ho:0<n:=by grind
   have Tw:off<cs.length:=by omega
   obtain⟨v,hv,hr⟩:=h.get off cs[off] (by simp [Tw]);refine⟨v,by grind [Aa],fun w'=>?_⟩;simp_all [part]
def GN (P:Program) (t:TypeId) (f:Nat):V->Prop×V
 | .agg cs=>match nm P t f with
   | some (o,ag,n)=>(o+n<=cs.length/\(ag=true\/0<n),toV ag o n cs)
   | none=>no
 | _=>no
theorem Zs {P:Program} {t:TypeId} {f:Nat} {x:V} {u:Value} {w:World} {G:Ax} (hx:Aa w G x u) (hs:(GN P t f x).1):
 ∃ r,Aa w G (GN P t f x).2 r/\ ∀ w',(Instr.field t u f).run P w'= .ok r w':=by
 unfold GN at *;split at hs
 ·split at hs
  ·rename_i o ag n hf;simp only [Aa]at hx;obtain⟨arr,rfl,hr⟩:=hx;obtain⟨fs,y,h1,h2,h3,h4⟩:=S3 hf;simp_all [aaW,Instr.field,run_underlying,asAgg]
  grind
 grind
def Bz (P:Program) (t:TypeId) (st:St) (x y:V):Prop×V:=
 match y with
 | .c (.int _ i)=>match x with
   | .c (.sl len cs)=>match Ck P t with
     | some (_,n)=>(0<=i/\i<len, .c (.aaq cs (i.toNat*n)))
     | none=>no
   | .c (.l_ id)=>match Ck P t,st.aaP id with
     | some (_,n),some e=>match e.row with
       | some (_,_,len)=>(0<=i/\i<len, .c (.ptr id (i.toNat*n)))
       | none=>no
     | _,_=>no
   | .c (.bsl id off len)=>match Ck P t with
     | some (_,n)=>(0<=i/\i<len, .c (.ptr id (off+i.toNat*n)))
     | none=>no
   | .c (.ptr id off)=>match C6 P t with
     | some (k,_,n)=>(0<=i/\i<k, .c (.ptr id (off+i.toNat*n)))
     | none=>no
   | .c (.aaq cs off)=>match C6 P t with
     | some (k,_,n)=>(0<=i/\i<k, .c (.aaq cs (off+i.toNat*n)))
     | none=>no
   | _=>no
 | _=>no
theorem CD {P:Program} {t e:TypeId} {n:Nat} (h:Ck P t=some (e,n)) (b o len cap:Nat) (k:IntKind) (i:Int) (h0:0<=i) (h1:i<len) (w:World):
 (Instr.indexAt t (.slice (some ⟨b,o,none⟩) len cap) (.int k i)).run P w= .ok (.pointer (some ⟨b,o+i.toNat*n,none⟩)) w:=by
 obtain⟨hu,inf,hi,Tr⟩:=B4 h;simp [Instr.indexAt,asIntOf,Sem.run_bind,run_underlying hu,h0,h1,sizeOf,typeInfo,program,Sem.run,hi,Tr,Addr.add_mid]
theorem C7 {P:Program} {t e:TypeId} {m n:Nat} (h:C6 P t=some (m,e,n)) (b o:Nat) (k:IntKind) (i:Int) (h0:0<=i) (h1:i<m) (w:World):
 (Instr.indexAt t (.pointer (some ⟨b,o,none⟩)) (.int k i)).run P w= .ok (.pointer (some ⟨b,o+i.toNat*n,none⟩)) w:=by
 obtain⟨hu,inf,hi,Tr⟩:=EL h;simp [Instr.indexAt,asIntOf,Sem.run_bind,run_underlying hu,h0,h1,sizeOf,typeInfo,program,Sem.run,hi,Tr,Addr.add_mid,Instr.sureAddr]
theorem IQ {P:Program} {F:Fr} {st:St} {a:Act} {w:World} {G:Ax} (h:R F st a w G) {t:TypeId} {x y:V} {u v:Value} (hx:Aa w G x u) (hy:Aa w G y v) (hs:(Bz P t st x y).1):
 ∃ r,Aa w G (Bz P t st x y).2 r/\ ∀ w',(Instr.indexAt t u v).run P w'= .ok r w':=by
 unfold Bz at *;split at hs
 ·rename_i k i;simp only [Aa,Ab]at hy;subst hy;split at hs
  ·split at hs
   ·rename_i len cs e n hse;simp only [Aa,Ab]at hx ⊢;obtain⟨hp,ad,cap,rfl,_,_,_,h0 | ⟨b,o,rfl,h1,h2,h3⟩⟩:=hx
    ·omega
    ·exact⟨_,⟨hp,b,o,rfl,h1,h2,h3⟩,(by grind [CD])⟩
   grind
  ·rename_i id;split at hs
   ·rename_i e n en hse hlk;split at hs
    ·rename_i E n' len m_;obtain⟨hm,hid⟩:=Px hlk;have hE:=h.store en hm;unfold AN at hE;rw [m_]at hE;obtain⟨hl,v,z_,afV⟩:=hE;simp only [Aa,Ab]at hx ⊢;rw [hid]at z_;rw [z_]at hx;obtain⟨hx,_⟩:=hx;injection hx with hx;subst hx;rcases afV with ⟨_,h0,_⟩ | ⟨b,cap,cur,rfl,hb,_⟩
     ·omega
     ·refine⟨_,⟨b,by rw [<-hid];exact hb,rfl⟩,fun w'=>?_⟩;simpa using CD hse b 0 len cap k i hs.1 hs.2 w'
    grind
   grind
  ·rename_i id off len;split at hs
   ·rename_i e n hse;simp only [Aa,Ab]at hx ⊢;obtain⟨b,cap,o,hb,rfl,hc,_,ho⟩:=hx;have ho:o=off:=(by grind);subst ho;exact⟨_,⟨b,hb,rfl⟩,(by grind [CD])⟩
   grind
  ·split at hs
   ·rename_i m e n hae;simp only [Aa,Ab]at hx ⊢;obtain⟨b,hb,rfl⟩:=hx;exact⟨_,⟨b,hb,rfl⟩,(by grind [C7])⟩
   grind
  ·split at hs
   ·rename_i m e n hae;simp only [Aa,Ab]at hx ⊢;obtain⟨hp,b,o,rfl,h1,h2,h3⟩:=hx;exact⟨_,⟨hp,b,o,rfl,h1,h2,h3⟩,(by grind [C7])⟩
   grind
  grind
 grind
def FQ (P:Program) (t:TypeId) (x y:V):Prop×V:=
 match y with
 | .c (.int _ i)=>match x with
   | .c (.str s)=>(Cb P t=true/\0<=i/\i<s.length, .c (.int .u8 (s.getD i.toNat 0).toNat))
   | .agg cs=>match C6 P t with
     | some (k,e,n)=>match FW P e with
       | some (ag,_)=>(0<=i/\i<k/\i.toNat*n+n<=cs.length/\0<n,toV ag (i.toNat*n) n cs)
       | none=>no
     | none=>no
   | _=>no
 | _=>no
theorem Zt {P:Program} {t:TypeId} {x y:V} {u v:Value} {w:World} {G:Ax} (hx:Aa w G x u) (hy:Aa w G y v) (hs:(FQ P t x y).1):
 ∃ r,Aa w G (FQ P t x y).2 r/\ ∀ w',(Instr.index t u v).run P w'= .ok r w':=by
 unfold FQ at *;split at hs
 ·rename_i k i;simp only [Aa,Ab]at hy;subst hy;split at hs
  ·simp only [Aa,Ab]at hx;subst hx;obtain⟨h1,h2,h3⟩:=hs;rename_i s;refine⟨_,(AD rfl).2 rfl,fun w'=>?_⟩;have Tw:i.toNat<s.length:=by omega
   have hg:(⟨s.toArray⟩:ByteArray)[i.toNat]? =some s[i.toNat]:=by rw [getElem?_pos _ _ (by simpa [ByteArray.size] using Tw)];rfl
   simp_all [Instr.index,asIntOf,run_underlying,B5,Fq]
  ·split at hs
   ·rename_i m e n hae;split at hs
    ·rename_i ag n' hts;obtain⟨hu,inf,hi,Tr⟩:=EL hae;obtain⟨d,anS,hu',hd,M_,an4⟩:=Bw hts;rw [hi]at M_;injection M_ with M_;subst M_;have hnn:n'=n:=by omega
     subst hnn;simp only [Aa]at hx;obtain⟨arr,rfl,hr⟩:=hx;obtain⟨r,q1,q2⟩:=aaW hts hr hs.2.2.1 (.inr hs.2.2.2);simp_all [Instr.index,asIntOf,run_underlying,sizeOf,typeInfo]
    grind
   grind
  grind
 grind
end Go.PL
namespace Go.PL
open Go Go.RowKit
def WN (len:Nat) (lo hi:Option V):Option (Int×Int):=
 match lo,hi with
 | none,none=>some (0,len)
 | some (.c (.int _ l)),none=>some (l,len)
 | none,some (.c (.int _ h))=>some (0,h)
 | some (.c (.int _ l)),some (.c (.int _ h))=>some (l,h)
 | _,_=>none
def EM (P:Program) (t:TypeId) (x:V) (lo hi:Option V):Prop×V:=
 match x with
 | .c (.str s)=>match WN s.length lo hi with
   | some (l,h)=>(Cb P t=true/\0<=l/\l<=h/\h<=s.length, .c (.str ((s.drop l.toNat).take (h.toNat - l.toNat))))
   | none=>no
 | .c (.sl len cs)=>match Ck P t,WN len lo hi with
   | some (_,n),some (l,h)=>(0<=l/\l<=h/\h<=len/\cs.length=len*n, .c (.sl (h.toNat - l.toNat) ((cs.drop (l.toNat*n)).take ((h.toNat - l.toNat)*n))))
   | _,_=>no
 | .c (.ptr id off)=>match C6 P t,WN (match C6 P t with
  | some (k,_,_)=>k
  | none=>0) lo hi with
  | some (k,_,n),some (l,h)=>(0<=l/\l<k/\l<=h/\h<=k, .c (.bsl id (off+l.toNat*n) (h.toNat - l.toNat)))
  | _,_=>no
 | _=>no
def GO (w:World) (G:Ax):Option V->Option Value->Prop
 | none,none=>True
 | some x,some v=>Aa w G x v
 | _,_=>False
theorem f_ {P:Program} (w:World) (k:IntKind) (i:Int) (y:Nat) (code:BoundsCode) (h0:0<=i) (h1:i<=y):
 (Instr.sliceBound (.int k i) y code).run P w= .ok i.toNat w:=by
 simp_all [Instr.sliceBound,asIntOf]
theorem S4 {P:Program} {w:World} {G:Ax} {len cap:Nat} {lo hi:Option V} {lv hv:Option Value} {l h:Int} (sl:Bool) (hb:WN len lo hi=some (l,h)) (h1:GO w G lo lv) (h2:GO w G hi hv)
 (q1:0<=l) (q2:l<=h) (q3:h<=len) (q4:len<=cap): ∀ w',(Instr.sliceBounds sl len cap lv hv none).run P w'= .ok (l.toNat,h.toNat,cap) w':=by
 intro w';unfold WN at hb;split at hb
 ·simp only [injEq,Prod.mk.injEq]at hb;obtain⟨rfl,rfl⟩:=hb;cases lv<;>cases hv<;>simp only [GO]at h1 h2;simp [Instr.sliceBounds]
 ·rename_i k1 l1;simp only [injEq,Prod.mk.injEq]at hb;obtain⟨rfl,rfl⟩:=hb;cases lv<;>cases hv<;>simp only [GO,Aa,Ab]at h1 h2;simp_all [f_,Instr.sliceBounds]
 ·rename_i k2 l2;simp only [injEq,Prod.mk.injEq]at hb;obtain⟨rfl,rfl⟩:=hb;cases lv<;>cases hv<;>simp only [GO,Aa,Ab]at h1 h2;subst h2;have e2:=fun code=>f_ (P:=P) w' k2 l2 cap code (by omega) (by omega);simp [Instr.sliceBounds,e2]
 ·rename_i k1 l1 k2 l2;simp only [injEq,Prod.mk.injEq]at hb;obtain⟨rfl,rfl⟩:=hb;cases lv<;>cases hv<;>simp only [GO,Aa,Ab]at h1 h2;subst h1 h2;have e1:=fun code=>f_ (P:=P) w' k1 l1 l2.toNat code q1 (by omega);have e2:=fun code=>f_ (P:=P) w' k2 l2 cap code (by omega) (by omega);simp_all [Instr.sliceBounds]
 ·cases hb
theorem Zu {P:Program} {t:TypeId} {x:V} {lo hi:Option V} {u:Value} {lv hv:Option Value} {w:World} {G:Ax} (hx:Aa w G x u) (h1:GO w G lo lv) (h2:GO w G hi hv) (hs:(EM P t x lo hi).1):
 ∃ r,Aa w G (EM P t x lo hi).2 r/\ ∀ w',(Instr.sliceAt t u lv hv none).run P w'= .ok r w':=by
 unfold EM at *;split at hs
 ·rename_i s;split at hs
  ·rename_i l h hb;simp only [Aa,Ab]at hx;subst hx;obtain⟨q0,q1,q2,q3⟩:=hs;refine⟨_,(AD rfl).2 rfl,fun w'=>?_⟩;have e:(⟨s.toArray⟩:ByteArray).extract l.toNat h.toNat=⟨((s.drop l.toNat).take (h.toNat - l.toNat)).toArray⟩:=by apply ByteArray.ext;simp_all
   have:=S4 (P:=P) (w:=w) (G:=G) false (len:=s.length) (cap:=s.length) hb h1 h2 q1 q2 q3 (le_refl _) w';simp_all [Instr.sliceAt,Instr.slice,run_underlying,B5,SZ,Fq]
  grind
 ·rename_i len cs;split at hs
  ·rename_i e n l h hse hb;obtain⟨q1,q2,q3,q4⟩:=hs;obtain⟨hu,inf,M_,Tr⟩:=B4 hse;simp only [Aa,Ab]at hx ⊢;obtain⟨hp,ad,cap,rfl,c1,c2,c3,c4⟩:=hx;have hr:=fun w'=>S4 (P:=P) (w:=w) (G:=G) true (len:=len) (cap:=cap) hb h1 h2 q1 q2 q3 c1 w';refine⟨.slice (if cap=l.toNat then ad else ad.map (·.add (l.toNat*n))) (h.toNat - l.toNat) (cap - l.toNat),⟨Jl _ (Jm _ hp),_,_,rfl,by omega,by omega,?_,?_⟩,fun w'=>?_⟩
   ·simp_all
   ·by_cases hz:h.toNat - l.toNat=0
    ·grind
    ·right;rcases c4 with c4 | ⟨b,o,rfl,k1,k2,k3⟩
     ·omega
     ·have n_: ¬cap=l.toNat:=by omega
      refine⟨b,o+l.toNat*n,?_,k1,k2,?_⟩
      ·simp_all [Addr.add_mid]
      ·exact(k3.drop (l.toNat*n)).take _
   simp_all [Instr.sliceAt,Instr.slice,run_underlying,sizeOf,typeInfo]
  grind
 ·rename_i id off;split at hs
  ·rename_i k e n l h hae hb;obtain⟨q1,q2,q3,q4⟩:=hs;obtain⟨hu,inf,M_,Tr⟩:=EL hae;simp only [hae]at hb;simp only [Aa,Ab]at hx ⊢;obtain⟨b,hb1,rfl⟩:=hx;have hr:=fun sl w'=>S4 (P:=P) (w:=w) (G:=G) sl (len:=k) (cap:=k) hb h1 h2 q1 q3 q4 (le_refl _) w';have n_: ¬k=l.toNat:=by omega
   refine⟨.slice (some (if k=l.toNat then⟨b,off,none⟩else(⟨b,off,none⟩:Addr).add (l.toNat*n))) (h.toNat - l.toNat) (k - l.toNat),⟨b,k - l.toNat,off+l.toNat*n,hb1,?_,by omega,le_refl _, .inr rfl⟩,fun w'=>?_⟩
   ·simp_all [Addr.add_mid]
   simp_all [Instr.sliceAt,Instr.sureAddr,run_underlying,sizeOf,typeInfo]
  grind
 grind
def Cl (P:Program) (t:TypeId):Bool:=
 match P.underlying t with
 | some (.slice _)=>true
 | _=>false
def M0 (P:Program) (t:TypeId) (st:St) (x:V):Prop×V:=
 match x with
 | .c (.str s)=>(Cb P t=true, .c (.int .i64 s.length))
 | .c (.sl len _)=>(Cl P t=true, .c (.int .i64 len))
 | .c (.l_ id)=>match st.aaP id with
   | some e=>match e.row with
     | some (_,_,len)=>(Cl P t=true, .c (.int .i64 len))
     | none=>no
   | none=>no
 | .c (.bsl _ _ len)=>(Cl P t=true, .c (.int .i64 len))
 | .c (.rsl _ _ _ len)=>(Cl P t=true, .c (.int .i64 len))
 | _=>match C6 P t with
   | some (k,_,_)=>(True, .c (.int .i64 k))
   | none=>no
theorem BF {P:Program} {t:TypeId} (h:Cl P t=true): ∃ e,P.underlying t=some (.slice e):=by grind [Cl]
theorem nt {F:Fr} {st:St} {a:Act} {w:World} {G:Ax} (h:R F st a w G) {id:Ad} {e:Ar} (he:st.aaP id=some e) {E n len:Nat} (m_:e.row=some (E,n,len)) {u:Value} (hx:Ab w G (.l_ id) u):
 ∃ ad cap,u= .slice ad len cap:=by
 obtain⟨hm,hid⟩:=Px he;have hE:=h.store e hm;unfold AN at hE;rw [m_]at hE;obtain⟨hl,v,z_,afV⟩:=hE;simp only [Ab]at hx;grind
theorem ig {P:Program} {F:Fr} {st:St} {a:Act} {w:World} {G:Ax} (h:R F st a w G) {t ty:TypeId} {x:V} {u:Value} (hx:Aa w G x u) (hs:(M0 P t st x).1):
 ∃ r,Aa w G (M0 P t st x).2 r/\ ∀ w',(Builtin.len_ #[t] ty #[u]).run P w'= .ok r w':=by
 unfold M0 at *;split at hs
 ·simp only [Aa,Ab]at hx;subst hx;exact⟨_,(AD rfl).2 rfl,(by simp_all [Builtin.len_,run_underlying,B5,goInt,SZ,Fq])⟩
 ·obtain⟨e,he⟩:=BF hs;simp only [Aa,Ab]at hx;obtain⟨_,ad,cap,rfl,_⟩:=hx;exact⟨_,(AD rfl).2 rfl,(by simp_all [Builtin.len_,run_underlying,goInt,Fq])⟩
 ·split at hs
  ·rename_i e hlk;split at hs
   ·rename_i E n len m_;obtain⟨el,he⟩:=BF hs;obtain⟨ad,cap,rfl⟩:=nt h hlk m_ (by simpa [Aa] using hx);exact⟨_,(AD rfl).2 rfl,(by simp_all [Builtin.len_,run_underlying,goInt,Fq])⟩
   grind
  grind
 ·obtain⟨e,he⟩:=BF hs;simp only [Aa,Ab]at hx;obtain⟨b,cap,o,hb,rfl,hc,_⟩:=hx;exact⟨_,(AD rfl).2 rfl,(by simp_all [Builtin.len_,run_underlying,goInt,Fq])⟩
 ·obtain⟨e,he⟩:=BF hs;simp only [Aa,Ab]at hx;obtain⟨_,_,_,_,_,_,rfl,_⟩:=hx;exact⟨_,(AD rfl).2 rfl,(by simp_all [Builtin.len_,run_underlying,goInt,Fq])⟩
 ·split at hs
  ·rename_i k el n hae;obtain⟨hu,_⟩:=EL hae;exact⟨_,(AD rfl).2 rfl,(by simp_all [Builtin.len_,run_underlying,goInt,Fq])⟩
  grind
def GP:List V->Option (IntKind×Int×List Int)
 | [.c (.int k x)]=>some (k,x,[])
 | .c (.int k x)::vs=>match GP vs with
   | some (_,y,ys)=>some (k,x,y::ys)
   | none=>none
 | _=>none
def Zv (vs:List V):Prop×V:=
 match GP vs with
 | some (k,x,ys)=>(True, .c (.int k (ys.foldl (fun a y=>if y<a then y else a) x)))
 | none=>no
def Zw (vs:List V):Prop×V:=
 match GP vs with
 | some (k,x,ys)=>(True, .c (.int k (ys.foldl (fun a y=>if a<y then y else a) x)))
 | none=>no
theorem M1 {w:World} {G:Ax}: ∀ {vs:List V} {us:List Value} {k:IntKind} {x:Int} {ys:List Int},GP vs=some (k,x,ys)->Ao w G vs us->
 ∃ ks:List IntKind,us= .int k x::(ks.zip ys).map (fun p=>Value.int p.1 p.2)/\ks.length=ys.length
 | [],us,k,x,ys,h,_=>by simp [GP]at h
 | [v],us,k,x,ys,h,hr=>by
   unfold GP at h;split at h
   ·rename_i k' x' he;injection he with he _;subst he;simp only [injEq,Prod.mk.injEq]at h;obtain⟨rfl,rfl,rfl⟩:=h;simp only [Ao,Aa,Ab]at hr;simp_all
   all_goals grind
 | v::v2::vs,us,k,x,ys,h,hr=>by
   unfold GP at h;split at h
   ·grind
   ·rename_i k' x' vs' n_ he;injection he with he1 he2;subst he1 he2;split at h
    ·rename_i k2 y ys' q;simp only [injEq,Prod.mk.injEq]at h;obtain⟨rfl,rfl,rfl⟩:=h;rw [Ao]at hr;obtain⟨u,r,rfl,h1,h2⟩:=hr;simp only [Aa,Ab]at h1;subst h1;obtain⟨ks,e,hl⟩:=M1 q h2;exact⟨k2::ks,by rw [e];simp,by simp [hl]⟩
    ·cases h
   ·cases h
theorem NV {P:Program} (w:World) (k:IntKind): ∀ (ks:List IntKind) (ys:List Int) (x:Int),ks.length=ys.length->
 (((ks.zip ys).map (fun p=>Value.int p.1 p.2)).foldlM Builtin.min2 (.int k x)).run P w= .ok (.int k (ys.foldl (fun a y=>if y<a then y else a) x)) w
 | [],[],x,_=>by simp
 | [],_::_,_,h=>by simp at h
 | _::_,[],_,h=>by simp at h
 | k'::ks,y::ys,x,h=>by simp only [List.zip_cons_cons,map_cons,List.foldlM_cons,foldl_cons,Sem.run_bind,Builtin.min2,Sem.run_pure,Result.andThen_ok];exact NV w k ks ys _ (by simpa using h)
theorem NW {P:Program} (w:World) (k:IntKind): ∀ (ks:List IntKind) (ys:List Int) (x:Int),ks.length=ys.length->
 (((ks.zip ys).map (fun p=>Value.int p.1 p.2)).foldlM Builtin.max2 (.int k x)).run P w= .ok (.int k (ys.foldl (fun a y=>if a<y then y else a) x)) w
 | [],[],x,_=>by simp
 | [],_::_,_,h=>by simp at h
 | _::_,[],_,h=>by simp at h
 | k'::ks,y::ys,x,h=>by simp only [List.zip_cons_cons,map_cons,List.foldlM_cons,foldl_cons,Sem.run_bind,Builtin.max2,Sem.run_pure,Result.andThen_ok];exact NW w k ks ys _ (by simpa using h)
theorem S5 {P:Program} {vs:List V} {us:Array Value} {w:World} {G:Ax} {ts:Array TypeId} {ty:TypeId} (hx:Ao w G vs us.toList) (hs:(Zv vs).1):
 ∃ r,Aa w G (Zv vs).2 r/\ ∀ w',(Builtin.min_ ts ty us).run P w'= .ok r w':=by
 unfold Zv at *;split at hs
 ·rename_i k x ys h;obtain⟨ks,e,hl⟩:=M1 h hx;exact⟨_,(AD rfl).2 rfl,fun w'=>by simp only [Builtin.min_,e];exact NV w' k ks ys x hl⟩
 grind
theorem S6 {P:Program} {vs:List V} {us:Array Value} {w:World} {G:Ax} {ts:Array TypeId} {ty:TypeId} (hx:Ao w G vs us.toList) (hs:(Zw vs).1):
 ∃ r,Aa w G (Zw vs).2 r/\ ∀ w',(Builtin.max_ ts ty us).run P w'= .ok r w':=by
 unfold Zw at *;split at hs
 ·rename_i k x ys h;obtain⟨ks,e,hl⟩:=M1 h hx;exact⟨_,(AD rfl).2 rfl,fun w'=>by simp only [Builtin.max_,e];exact NW w' k ks ys x hl⟩
 grind
end Go.PL
namespace Go.PL
open Go Go.RowKit
def y_ (p:Prop×V) (f:V->Prop×V):Prop×V:=(p.1/\(f p.2).1,(f p.2).2)
def St.args (st:St) (g:Bool):List Operand->Prop×List V
 | []=>(True,[])
 | x::xs=>((st.arg g x).1/\(st.args g xs).1,(st.arg g x).2::(st.args g xs).2)
def M2:V->Option (Bool×Bool)
 | .c (.bool q)=>some (true,q)
 | .g c (.c (.bool q))=>some (c,q)
 | _=>none
def S7 (p:Bool) (a b:V):Prop×V:=
 match M2 a,M2 b with
 | some (ca,q),some (cb,r)=>((p=true->ca=true)/\(p=false->cb=true), .c (.bool (if p then q else r)))
 | _,_=>no
def WO:V->Prop×V
 | .c (.ptr id off)=>(True, .c (.ptr id off))
 | .c (.aaq cs off)=>(True, .c (.aaq cs off))
 | .c (.fn f)=>(True, .c (.fn f))
 | .c (.clo f cs)=>(True, .c (.clo f cs))
 | .c (.bmv f cs)=>(True, .c (.bmv f cs))
 | _=>no
def ii (i:Nat):V->Prop×V
 | .tup vs=>(i<vs.length,vs.getD i .undef)
 | _=>no
def Cg (st:St) (g:Bool):Option Operand->Prop×Option V
 | none=>(True,none)
 | some x=>((st.arg g x).1,some (st.arg g x).2)
def M3 (P:Program) (st:St) (g:Bool) (b:Builtin) (xs:List Operand) (ts:List TypeId):Prop×V:=
 match b,xs,ts with
 | .len,[x],[t]=>y_ (st.arg g x) (M0 P t st)
 | .min,xs,_=>((st.args g xs).1/\(Zv (st.args g xs).2).1,(Zv (st.args g xs).2).2)
 | .max,xs,_=>((st.args g xs).1/\(Zw (st.args g xs).2).1,(Zw (st.args g xs).2).2)
 | _,_,_=>no
def rd (P:Program) (st:St) (g:Bool):Op->Prop×V
 | .move x=>st.arg g x
 | .assign x=>st.arg g x
 | .pick c a b=>y_ (st.arg g c) fun p=>match p with
   | .c (.bool q)=>S7 q (st.ev a) (st.ev b)
   | _=>no
 | .load t x=>y_ (st.arg g x) (CM P t st)
 | .nilCheck x=>y_ (st.arg g x) WO
 | .binOp op t x y _=>y_ (st.arg g x) fun u=>y_ (st.arg g y) fun v=>R6 P op t (AU x||AU y) u v
 | .unOp op _ x=>y_ (st.arg g x) (uQ op)
 | .convert src dst x=>y_ (st.arg g x) (HO P src dst st)
 | .slice t x lo hi none=>y_ (st.arg g x) fun u=>((Cg st g lo).1/\(Cg st g hi).1/\(EM P t u (Cg st g lo).2 (Cg st g hi).2).1,(EM P t u (Cg st g lo).2 (Cg st g hi).2).2)
 | .fieldAddr s x f=>y_ (st.arg g x) (Bq P s f)
 | .field t x f=>y_ (st.arg g x) (GN P t f)
 | .indexAddr t x i=>y_ (st.arg g x) fun u=>y_ (st.arg g i) fun v=>Bz P t st u v
 | .index t x i=>y_ (st.arg g x) fun u=>y_ (st.arg g i) fun v=>FQ P t u v
 | .extract x i=>y_ (st.arg g x) (ii i)
 | .call c=>match c.callee with
   | .builtin b=>M3 P st g b c.args.toList c.argTypes.toList
   | _=>no
 | _=>no
theorem S8 {w:World} {G:Ax} {x:V} {v:Value} {c q:Bool} (h:M2 x=some (c,q)) (hr:Aa w G x v) (hc:c=true):v= .bool q:=by
 unfold M2 at h;split at h
 ·simp only [injEq,Prod.mk.injEq]at h;obtain⟨rfl,rfl⟩:=h;grind [Aa,Ab]
 ·simp only [injEq,Prod.mk.injEq]at h;obtain⟨rfl,rfl⟩:=h;simp_all [Aa,Ab]
 ·cases h
theorem R.args {F:Fr} {st:St} {a:Act} {w:World} {G:Ax} (h:R F st a w G) {g:Bool} (hg:g=true): ∀ {xs:List Operand},(st.args g xs).1->Ao w G (st.args g xs).2 (xs.map a.eval)
 | [],_=>by simp [St.args,Ao]
 | x::xs,hs=>by simp only [St.args]at hs ⊢;simp only [Ao,map_cons];exact⟨_,_,rfl,h.arg hg hs.1,h.args hg hs.2⟩
theorem Gt {w:World} {G:Ax}: ∀ {xs:List V} {vs:List Value},Ao w G xs vs-> ∀ i,i<xs.length-> ∃ v,vs[i]? =some v/\Aa w G (xs.getD i .undef) v
 | [],vs,h,i,hi=>by simp at hi
 | x::xs,vs,h,i,hi=>by
   simp only [Ao]at h;obtain⟨v,r,rfl,h1,h2⟩:=h;cases i with
   | zero=>exact⟨v,by simp,by simpa using h1⟩
   | succ i=>
     obtain⟨v',q1,q2⟩:=Gt h2 i (by simpa using hi);exact⟨v',by simpa using q1,by simpa using q2⟩
theorem S9 {F:Fr} {st:St} {a:Act} {w:World} {G:Ax} (h:R F st a w G) {g:Bool} (hg:g=true) {x:Option Operand} (hs:(Cg st g x).1):GO w G (Cg st g x).2 (x.map a.eval):=by
 cases x with
 | none=>simp [Cg,GO]
 | some x=>simp only [Cg,Option.map,GO]at hs ⊢;exact h.arg hg hs
theorem cz {P:Program} {F:Fr} {st:St} {a:Act} {w:World} {G:Ax} (h:R F st a w G) {g:Bool} (hg:g=true) {o:Oper} (hs:(rd P st g o.op).1):
 ∃ v,Aa w G (rd P st g o.op).2 v/\ ∀ w',Ca w w'->(execOp a.eval o).run P w'= .ok (.value v) w':=by
 cases ho:o.op<;>simp only [rd,ho,y_]at hs ⊢ <;>try (exact hs.elim)
 case move x=>exact⟨_,h.arg hg hs,fun w' _=>by simp [execOp,ho]⟩
 case assign x=>exact⟨_,h.arg hg hs,fun w' _=>by simp [execOp,ho]⟩
 case pick c x y=>
  obtain⟨h1,h2⟩:=hs;have hc:=h.arg hg h1;split at h2
  ·rename_i q hq;rw [hq]at hc;simp only [Aa,Ab]at hc;unfold S7 at h2 ⊢;split at h2
   ·rename_i ca qa cb qb e1 e2;cases q with
    | true=>
      have:=S8 e1 (h.ev x) (h2.1 rfl);simp_all [Aa,Ab,execOp,asBool]
    | false=>
      have:=S8 e2 (h.ev y) (h2.2 rfl);simp_all [Aa,Ab,execOp,asBool]
   grind
  grind
 case load t x=>
  obtain⟨v,q1,q2⟩:=KJ (P:=P) h (h.arg hg hs.1) hs.2;exact⟨v,q1,(by simp_all [execOp])⟩
 case nilCheck x=>
  obtain⟨h1,h2⟩:=hs;have hx:=h.arg hg h1;unfold WO at h2 ⊢;split at h2
  ·rename_i id off e;rw [e]at hx;simp only [Aa,Ab]at hx ⊢;obtain⟨b,hb,hv⟩:=hx;exact⟨_,⟨b,hb,rfl⟩,(by simp_all [execOp])⟩
  ·rename_i cs off e;rw [e]at hx;simp only [Aa,Ab]at hx ⊢;obtain⟨hp,b,o',hv,k1⟩:=hx;exact⟨_,⟨hp,b,o',rfl,k1⟩,(by simp_all [execOp])⟩
  ·rename_i f e;rw [e]at hx;simp only [Aa,Ab]at hx ⊢;exact⟨_,rfl,(by simp_all [execOp])⟩
  ·rename_i f cs e;rw [e]at hx;simp only [Aa,Ab]at hx ⊢;obtain⟨arr,hv,hr⟩:=hx;exact⟨_,⟨arr,rfl,hr⟩,(by simp_all [execOp])⟩
  ·rename_i f cs e;rw [e]at hx;simp only [Aa,Ab]at hx ⊢;obtain⟨arr,hv,hr⟩:=hx;exact⟨_,⟨arr,rfl,hr⟩,(by simp_all [execOp])⟩
  grind
 case binOp op t x y t'=>
  obtain⟨v,q1,q2⟩:=ic (P:=P) (ox:=x) (oy:=y) (h.arg hg hs.1) (h.arg hg hs.2.1) hs.2.2;refine⟨v,q1,fun w' hw'=>?_⟩;have:=q2 w';simp only [execOp,ho,Sem.run_bind]at this ⊢;simp_all
 case unOp op t x=>
  obtain⟨v,q1,q2⟩:=XA (P:=P) (h.arg hg hs.1) hs.2;exact⟨v,q1,(by simp_all [execOp])⟩
 case convert src dst x=>
  obtain⟨v,q1,q2⟩:=cy (P:=P) h (h.arg hg hs.1) hs.2;exact⟨v,q1,(by simp_all [execOp])⟩
 case slice t x lo hi mx=>
  cases mx with
  | some _=>grind
  | none=>
    simp only [y_]at hs ⊢;obtain⟨v,q1,q2⟩:=Zu (P:=P) (h.arg hg hs.1) (S9 h hg hs.2.1) (S9 h hg hs.2.2.1) hs.2.2.2;exact⟨v,q1,(by simp_all [execOp])⟩
 case fieldAddr s x f=>
  obtain⟨v,q1,q2⟩:=IP (P:=P) (h.arg hg hs.1) hs.2;exact⟨v,q1,(by simp_all [execOp])⟩
 case field s x f=>
  obtain⟨v,q1,q2⟩:=Zs (P:=P) (h.arg hg hs.1) hs.2;exact⟨v,q1,(by simp_all [execOp])⟩
 case indexAddr t x i=>
  obtain⟨v,q1,q2⟩:=IQ (P:=P) h (h.arg hg hs.1) (h.arg hg hs.2.1) hs.2.2;exact⟨v,q1,(by simp_all [execOp])⟩
 case index t x i=>
  obtain⟨v,q1,q2⟩:=Zt (P:=P) (h.arg hg hs.1) (h.arg hg hs.2.1) hs.2.2;exact⟨v,q1,(by simp_all [execOp])⟩
 case extract x i=>
  obtain⟨h1,h2⟩:=hs;have hx:=h.arg hg h1;unfold ii at h2 ⊢;split at h2
  ·rename_i vs e;rw [e]at hx;simp only [Aa]at hx;obtain⟨arr,hv,hr⟩:=hx;obtain⟨v,q1,q2⟩:=Gt hr i h2;have q1':arr[i]? =some v:=by grind
   exact⟨v,q2,(by simp_all [execOp,Instr.extract])⟩
  grind
 case call c=>
  split at hs
  ·rename_i b aaD;unfold M3 at hs ⊢;split at hs
   ·rename_i x t hxs hts;have ea:c.args= #[x]:=by grind
    have et:c.argTypes= #[t]:=by grind
    obtain⟨v,q1,q2⟩:=ig (P:=P) (ty:=o.type) h (h.arg hg hs.1) hs.2;refine⟨v,q1,fun w' _=>?_⟩;simp_all [execOp,resolve,invoke,builtin]
   ·rename_i xs ts hxs;obtain⟨v,q1,q2⟩:=S5 (P:=P) (ts:=c.argTypes) (ty:=o.type) (us:=c.args.map a.eval) (by simpa using h.args hg hs.1) hs.2;exact⟨v,q1,(by simp_all [execOp,resolve,invoke,builtin])⟩
   ·obtain⟨v,q1,q2⟩:=S6 (P:=P) (ts:=c.argTypes) (ty:=o.type) (us:=c.args.map a.eval) (by simpa using h.args hg hs.1) hs.2;exact⟨v,q1,(by simp_all [execOp,resolve,invoke,builtin])⟩
   grind
  grind
end Go.PL
namespace Go.PL
open Go Go.RowKit
def Ft (id:Ad) (c:C):C:=if c.g_ id then .any else c
def DB (id:Ad) (v:V):V:=if v.g_ id then .undef else v
def Ar.kill (id:Ad) (e:Ar):Ar:=match e with
 | ⟨i,r,cs,true⟩=>⟨i,r,cs,true⟩
 | ⟨i,r,cs,false⟩=>⟨i,r,cs.map (Ft id),false⟩
theorem Ar.x_ (id:Ad) (e:Ar):(e.kill id).id =e.id:=by obtain⟨i,r,cs,_ | _⟩:=e<;>rfl
theorem Ar.abl (id:Ad) (e:Ar):(e.kill id).row =e.row:=by obtain⟨i,r,cs,_ | _⟩:=e<;>rfl
def St.kill (st:St) (id:Ad):St:={tm:=st.tm.map (DB id),so:=(st.so.filter (fun e=>e.id != id&& !(Cf id&&DF e.id))).map (Ar.kill id),gh:=st.gh.map (DB id),pre:=st.pre}
def QQ (e:Ar) (l:List Ar):List Ar:=match Cf e.id||DF e.id with
 | true=>l
 | false=>e::l
def St.new (st:St) (e:Ar):St:={tm:=(st.kill e.id).tm,so:=QQ (e.kill e.id) (st.kill e.id).so,gh:=(st.kill e.id).gh,pre:=st.pre}
theorem Gu {e x:Ar} {l:List Ar} (h:x∈QQ e l):x=e/\Cf e.id=false/\DF e.id=false\/x∈l:=by grind [QQ]
def Bv (F:Fr) (G:Ax) (id:Ad) (b:Option Nat) (v:Option Value):Ax where
 blk:=fun i=>if i=id then b else G.blk i
 own:=fun i=>if i=id then v else G.own i
 wr:=fun x=>F.av x\/ ∃ i,(if i=id then b else G.blk i)=some x
theorem ny (id:Ad) (c:C):(Ft id c).g_ id=false:=by grind [Ft,C.g_]
theorem PD (id:Ad) (v:V):(DB id v).g_ id=false:=by grind [DB,V.g_]
theorem PE (id:Ad): ∀ cs:List C,Bm id (cs.map (Ft id))=false
 | []=>by simp [Bm]
 | c::cs=>by simp [Bm,ny,PE id cs]
theorem nB {w:World} {G:Ax} {id:Ad} {c:C} {v:Value} (h:Ab w G c v):Ab w G (Ft id c) v:=by
 unfold Ft;split
 ·simp only [Ab];exact h.one
 ·exact h
theorem PF {w:World} {G:Ax} {id:Ad}: ∀ {cs:List C} {vs:List Value},Ae w G cs vs->Ae w G (cs.map (Ft id)) vs
 | [],[],_=>by simp [Ae]
 | [],_::_,h=>by grind
 | _::_,[],h=>by simp [Ae]at h
 | c::cs,v::vs,h=>by simp only [Ae]at h;simp only [map_cons,Ae];exact⟨nB h.1,PF h.2⟩
theorem QR {w:World} {G:Ax} {id:Ad} {cs:List C} {b o:Nat} (h:Ai w G cs b o):Ai w G (cs.map (Ft id)) b o:=by obtain⟨vs,h1,h2⟩:=h.list;exact Ai.U_ (PF h1) h2
theorem PG {w:World} {G:Ax} {id:Ad} {x:V} {v:Value} (h:Aa w G x v):Aa w G (DB id x) v:=by grind [DB,Aa]
theorem M4 {w:World} {G:Ax} {id:Ad}: ∀ {xs:List V} {vs:List Value},Ao w G xs vs->Ao w G (xs.map (DB id)) vs
 | [],_,h=>by grind
 | x::xs,vs,h=>by simp only [Ao]at h;obtain⟨v,r,e,h1,h2⟩:=h;simp only [map_cons,Ao];exact⟨v,r,e,PG h1,M4 h2⟩
theorem M5 (id:Ad): ∀ xs:List V,Ij id (xs.map (DB id))=false
 | []=>by simp [Ij]
 | x::xs=>by simp [Ij,PD,M5 id xs]
theorem XC {w:World} {G:Ax} {id:Ad} {e:Ar} (h:AN w G e):AN w G (e.kill id):=by
 obtain⟨i,r,cs,pu⟩:=e;cases pu with
 | true=>exact h
 | false=>
 unfold AN at *;simp only [Ar.kill];simp only at h;split at h
 ·obtain⟨b,h1,h2⟩:=h;refine⟨b,h1,?_⟩;rcases h2 with ⟨kv,es,rfl,h2⟩ | ⟨T,cur,h2,h3,h4⟩
  ·exact .inl ⟨kv,es,by simp [Ft,C.g_],h2⟩
  ·exact .inr ⟨T,cur,h2,by simpa using h3,QR h4⟩
 ·obtain⟨hl,v,h1,h2⟩:=h;refine⟨by grind,v,h1,?_⟩;rcases h2 with h2 | ⟨b,cap,cur,e1,e2,e3,e4,e5,e6,e7⟩
  ·grind
  ·exact .inr ⟨b,cap,cur,e1,e2,e3,e4,e5,e6,QR e7⟩
theorem LV {id:Ad} {e:Ar} (h:e.pu=true->Al e.cs=true):(e.kill id).pu =true->Al (e.kill id).cs =true:=by
 obtain⟨i,r,cs,pu⟩:=e;cases pu with
 | true=>exact h
 | false=>intro hq;cases hq
theorem cA {id:Ad} {e:Ar} (h:e.pu=true->Al e.cs=true):Bm id (e.kill id).cs =false:=by
 obtain⟨i,r,cs,pu⟩:=e;cases pu with
 | true=>exact AL id cs (h rfl)
 | false=>exact PE id cs
theorem BN {w w':World} {G G':Ax} (hk:BE G G' w w') {e:Ar} (ha:GJ (fun id=>Bm id e.cs=true) G G') (hid:G'.blk e.id=G.blk e.id/\G'.own e.id=G.own e.id)
 (hb: ∀ b,G.blk e.id=some b->w'.heap[b]? =w.heap[b]?) (h:AN w G e):AN w' G' e:=by
 unfold AN at *;split at h
 ·obtain⟨b,h1,h2⟩:=h;refine⟨b,by grind,?_⟩;rcases h2 with ⟨kv,es,h2,h3,h4⟩ | ⟨T,cur,h2,h3,h4⟩
  ·exact .inl ⟨kv,es,h2,by rw [hb b h1];exact h3,h4⟩
  ·exact .inr ⟨T,cur,by rw [hb b h1];exact h2,h3,Ai.mono hk _ _ _ ha (fun o=>G_ (hb b h1) o) h4⟩
 ·obtain⟨hl,v,h1,h2⟩:=h;refine⟨hl,v,by grind,?_⟩;rcases h2 with ⟨p,e1,e2,e3⟩ | ⟨b,cap,cur,e1,e2,e3,e4,e5,e6,e7⟩
  ·grind
  ·exact .inr ⟨b,cap,cur,e1,by grind,by grind,e4,e5,e6,(by grind [Ai.mono,G_])⟩
theorem Dw.mono {w w':World} {G G':Ax} (hk:BE G G' w w') {e:Ar} (hid:G'.blk e.id=G.blk e.id/\G'.own e.id=G.own e.id) (hmk: ∀ k,G'.blk (Bi k e.id)=G.blk (Bi k e.id)/\G'.own (Bi k e.id)=G.own (Bi k e.id))
 (hb: ∀ b,G.blk e.id=some b->w'.heap[b]? =w.heap[b]?) (hbm: ∀ k b,G.blk (Bi k e.id)=some b->w'.heap[b]? =w.heap[b]?) (h:Dw w G e):Dw w' G' e:=fun k E n len cs q=>by
 obtain⟨h1,h2,b,v,h3,h4,h5⟩:=h k E n len cs q;refine⟨h1,BN hk (e:=⟨Bi k e.id,some (E,n,len),cs,true⟩) (fun i hi=>absurd (show Bm i cs=true from hi) (by rw [AL i cs h1];simp)) (hmk k) (hbm k) h2,b,v,by grind,?_,by grind⟩;grind [G_]
theorem A8.mono {w w':World} {G G':Ax} (hk:BE G G' w w') {e:Ar} (hid:G'.blk e.id=G.blk e.id/\G'.own e.id=G.own e.id) (hmk:DF e.id=true-> ∀ k,G'.blk (Bi k e.id)=G.blk (Bi k e.id)/\G'.own (Bi k e.id)=G.own (Bi k e.id))
 (hb: ∀ b,G.blk e.id=some b->w'.heap[b]? =w.heap[b]?) (hbm:DF e.id=true-> ∀ k b,G.blk (Bi k e.id)=some b->w'.heap[b]? =w.heap[b]?) (h:A8 w G e):A8 w' G' e:=
 ⟨h.1,fun hd=>⟨(h.2 hd).1,(h.2 hd).2.1,(h.2 hd).2.2.mono hk hid (hmk hd) hb (hbm hd)⟩⟩
theorem A8.kill {w:World} {G:Ax} {e:Ar} {id:Ad} (h:A8 w G e):A8 w G (e.kill id):=by
 obtain⟨i,r,cs,pu⟩:=e;cases pu with
 | true=>exact h
 | false=>exact⟨h.1,fun hd=>absurd (h.2 hd).1 (by simp)⟩
theorem A8.ahD {w:World} {G:Ax} {e:Ar} (h1:Cf e.id=false) (h2:DF e.id=false):A8 w G e:=⟨h1,fun hd=>by rw [h2]at hd;cases hd⟩
theorem D7 {st:St} {f:V->V} (hf:f .undef = .undef) (i:Nat):(st.tm.map f).getD i .undef =f (st.tm.getD i .undef):=by grind
structure DD (w w':World):Prop where
 os:w'.os=w.os
 tape:w'.tape=w.tape
 output:w'.output=w.output
theorem R.rename {F:Fr} {st:St} {a:Act} {w w':World} {G:Ax} (h:R F st a w G) (id:Ad) (nb:Option Nat) (nv:Option Value)
 (ho:DD w w') (hs:w.heap.size<=w'.heap.size)
 (ag3: ∀ b,b<F.w0.heap.size-> ¬F.Tc b->w'.heap[b]? =w.heap[b]?)
 (hn: ∀ b,nb=some b->(w.heap.size<=b\/G.blk id=some b)/\b<w'.heap.size) (an:St)
 (htm:an.tm.length=st.tm.length) (hsl: ∀ i,Aa w' (Bv F G id nb nv) (an.tm.getD i .undef) (a.tmps.getD i Go.undef))
 (hgh:Ao w' (Bv F G id nb nv) an.gh F.gv) (hpu: ∀ e∈an.so,e.pu=true->Al e.cs=true) (hso: ∀ e∈an.so,AN w' (Bv F G id nb nv) e) (hdp: ∀ e∈an.so,A8 w' (Bv F G id nb nv) e) (hnd:(an.so.map (·.id)).Nodup):R F an a w' (Bv F G id nb nv) where
 dfr:=h.dfr
 size:=by rw [htm];exact h.size
 slots:=hsl
 t_:=hgh
 k_:=hpu
 store:=hso
 deep:=hdp
 nodup:=hnd
 inj:=by
  intro i j b hi hj;simp only [Bv]at hi hj;split at hi<;>split at hj
  ·simp_all
  ·rename_i q1 q2;rcases (hn b hi).1 with q | q
   ·exact absurd (h.lt j b hj) (by omega)
   ·exact absurd (h.inj j id b hj q) q2
  ·rename_i q1 q2;rcases (hn b hj).1 with q | q
   ·exact absurd (h.lt i b hi) (by omega)
   ·exact absurd (h.inj i id b hi q) q1
  ·exact h.inj i j b hi hj
 lt:=by
  intro i b hi;simp only [Bv]at hi;split at hi
  ·grind
  ·exact lt_of_lt_of_le (h.lt i b hi) hs
 new:=by
  intro i b hi;simp only [Bv]at hi;split at hi
  ·rcases (hn b hi).1 with q | q
   ·grind
   ·exact h.new id b q
  ·exact h.new i b hi
 wr:=fun b=>Iff.rfl
 Tu:=h.Tu
 inv:=h.inv
 Kq:=h.Kq
 os:=ho.os.trans h.os
 tape:=ho.tape.trans h.tape
 output:=ho.output.trans h.output
 hsize:=le_trans h.hsize hs
 ext:=fun b hb hold=>(ag3 b hb hold).trans (h.ext b hb hold)
theorem R.keeps {F:Fr} {st:St} {a:Act} {w w':World} {G:Ax} (h:R F st a w G) (id:Ad) (nb:Option Nat) (nv:Option Value)
 (hs:w.heap.size<=w'.heap.size) (aad: ∀ b,b<w.heap.size->(G.blk id ≠ some b)->w'.heap[b]? =w.heap[b]?)
 (hn: ∀ b,nb=some b->w.heap.size<=b\/(G.blk id=some b/\BU w w' b)):BE G (Bv F G id nb nv) w w' where
 size:=hs
 block:=fun b hb hw=>aad b hb (fun he=>hw ((h.wr b).2 (.inr ⟨id,he⟩)))
 wr:=by intro b hb hw;simp only [Bv]at hw;rw [h.wr];grind
 ty:=by
  intro i b h1 h2;have hb:=h.lt i b h1;simp only [Bv]at h2;split at h2
  ·grind
  ·rename_i n_;exact BU.same (aad b hb (fun q=>n_ (h.inj _ _ b h1 q)))
theorem CF {F:Fr} {G:Ax} {id:Ad} {nb:Option Nat} {nv:Option Value} {S:Ad->Prop} (hS: ∀ i,S i->i ≠ id):GJ S G (Bv F G id nb nv):=
 fun i hi=>by simp [Bv,hS i hi]
theorem R.set {F:Fr} {st:St} {a:Act} {w w':World} {G:Ax} (h:R F st a w G) (e:Ar) (nb:Option Nat) (nv:Option Value)
 (ho:DD w w') (hs:w.heap.size<=w'.heap.size) (aad: ∀ b,b<w.heap.size->(G.blk e.id ≠ some b)->w'.heap[b]? =w.heap[b]?)
 (ag3: ∀ b,b<F.w0.heap.size-> ¬F.Tc b->w'.heap[b]? =w.heap[b]?)
 (hn: ∀ b,nb=some b->(w.heap.size<=b\/(G.blk e.id=some b/\BU w w' b))/\b<w'.heap.size) (hp:e.pu=true->Al e.cs=true) (he:AN w' (Bv F G e.id nb nv) (e.kill e.id)):R F (st.new e) a w' (Bv F G e.id nb nv):=by
 have hk:=h.keeps e.id nb nv hs aad (by grind);refine h.rename e.id nb nv ho hs ag3 (by grind) (st.new e) (by simp [St.new,St.kill]) ?_ ?_ ?_ ?_ ?_ ?_
 ·intro i;simp only [St.new,St.kill];rw [D7 (by simp [DB,V.g_])];exact Aa.mono hk _ _ (by grind [CF,PD]) (PG (h.slots i))
 ·simp only [St.new,St.kill];exact Ao.mono hk _ _ (by grind [CF,M5]) (M4 h.t_)
 ·intro e' X_;simp only [St.new,St.kill]at X_;rcases Gu X_ with ⟨rfl,_⟩ | X_
  ·exact LV hp
  ·simp only [mem_map,mem_filter]at X_;obtain⟨d,⟨hd,n_⟩,rfl⟩:=X_;exact LV (h.k_ d hd)
 ·intro e' X_;simp only [St.new,St.kill]at X_;rcases Gu X_ with ⟨rfl,_⟩ | X_
  ·exact he
  ·simp only [mem_map,mem_filter,and_eq_true]at X_;obtain⟨d,⟨hd,n_,_⟩,rfl⟩:=X_;have abD:d.id ≠ e.id:=by grind
   refine BN hk (CF (fun i hi X_=>by subst X_;rw [cA (h.k_ d hd)]at hi;cases hi)) (by grind [Bv,Ar.x_]) ?_ (XC (h.store d hd));intro b hb;rw [Ar.x_]at hb;exact aad b (h.lt _ b hb) (fun q=>abD (h.inj _ _ b hb q))
 ·intro e' X_;simp only [St.new,St.kill]at X_;rcases Gu X_ with ⟨rfl,h1,h2⟩ | X_
  ·exact A8.ahD h1 h2
  ·simp only [mem_map,mem_filter,and_eq_true]at X_;obtain⟨d,⟨hd,n_,hmd⟩,rfl⟩:=X_;have abD:d.id ≠ e.id:=by grind
   have hmk:DF (d.kill e.id).id =true-> ∀ k,Bi k (d.kill e.id).id ≠ e.id:=by grind [Ar.x_,cx]
   refine A8.mono hk (by grind [Bv,Ar.x_]) (by grind [Bv]) ?_ (fun hq k b hb=>aad b (h.lt _ b hb) (fun q=>hmk hq k (h.inj _ _ b hb q))) (h.deep d hd).kill;intro b hb;rw [Ar.x_]at hb;exact aad b (h.lt _ b hb) (fun q=>abD (h.inj _ _ b hb q))
 ·have acS:List.Sublist (((st.new e).so.map (·.id))) (e.id::((st.so.filter (fun d=>d.id != e.id&& !(Cf e.id&&DF d.id))).map (·.id))):=by
   simp only [St.new,St.kill,QQ];split
   all_goals simp_all [Function.comp_def,Ar.x_]
  refine List.Sublist.nodup acS (List.nodup_cons.2 ⟨by grind,?_⟩);exact List.Sublist.nodup (by grind [List.filter_sublist]) h.nodup
theorem R.put {F:Fr} {st:St} {a:Act} {w:World} {G:Ax} (h:R F st a w G) {d:Option Nat} {x:V} {v:Value} (hx:Aa w G x v):R F (st.put d x) (a.put d v) w G:=by
 cases d with
 | none=>exact h
 | some d=>
   exact {
    dfr:=h.dfr
    size:=by simp [St.put,Act.put,h.size]
    slots:=by
     intro i;simp only [St.put,Act.put];by_cases hi:i=d
     ·subst hi;by_cases hl:i<st.tm.length
      ·simp [List.getD_eq_getElem?_getD,hl,h.size,hx]
      grind [Aa]
     ·have h1:(st.tm.set d x).getD i .undef =st.tm.getD i .undef :=by grind
      have h2:(a.tmps.setIfInBounds d v).getD i Go.undef=a.tmps.getD i Go.undef:=by simp_all [Ne.symm]
      rw [h1,h2];exact h.slots i
    t_:=by simpa [St.put] using h.t_
    store:=h.store,deep:=h.deep,k_:=h.k_,nodup:=h.nodup,inj:=h.inj,lt:=h.lt,new:=h.new,wr:=h.wr,Tu:=h.Tu,inv:=h.inv,Kq:=h.Kq,os:=h.os,tape:=h.tape,output:=h.output,hsize:=h.hsize,ext:=h.ext}
theorem R.same {F:Fr} {st:St} {a:Act} {w w':World} {G:Ax} (h:R F st a w G) (ho:DD w w') (hs:Ca w w'):R F st a w' G:=by
 have hk:BE G G w w':=⟨hs.size,fun b hb _=>hs.block b hb,fun b _ h=>h,fun i b h1 _=>BU.same (hs.block b (h.lt i b h1))⟩;exact {
  dfr:=h.dfr,size:=h.size
  slots:=fun i=>Aa.mono hk _ _ (fun _ _=>⟨rfl,rfl⟩) (h.slots i)
  t_:=Ao.mono hk _ _ (fun _ _=>⟨rfl,rfl⟩) h.t_
  store:=fun e he=>BN hk (fun _ _=>⟨rfl,rfl⟩) ⟨rfl,rfl⟩ (fun b hb=>hs.block b (h.lt _ b hb)) (h.store e he)
  deep:=fun e he=>A8.mono hk ⟨rfl,rfl⟩ (by grind) (fun b hb=>hs.block b (h.lt _ b hb)) (fun _ k b hb=>hs.block b (h.lt _ b hb)) (h.deep e he)
  k_:=h.k_
  nodup:=h.nodup,inj:=h.inj
  lt:=fun i b hb=>lt_of_lt_of_le (h.lt i b hb) hs.size
  new:=h.new,wr:=h.wr,Tu:=h.Tu,inv:=h.inv,Kq:=h.Kq
  os:=ho.os.trans h.os,tape:=ho.tape.trans h.tape,output:=ho.output.trans h.output
  hsize:=le_trans h.hsize hs.size
  ext:=fun b hb hold=>(hs.block b (lt_of_lt_of_le hb h.hsize)).trans (h.ext b hb hold)}
end Go.PL
namespace Go.PL
open Go Go.RowKit
theorem uX {w:World} {o:Obj} {b:Nat} (h:b<w.heap.size):(w.heap.push o)[b]? =w.heap[b]? :=by grind
theorem EO (w:World) (o:Obj):(w.alloc o).heap =w.heap.push o:=rfl
theorem Fu (w:World) (o:Obj):DD w (w.alloc o):=⟨rfl,rfl,rfl⟩
theorem EP (w:World) (o:Obj):Ca w (w.alloc o):=⟨by simp [EO],(by grind [EO])⟩
theorem Fh {F:Fr} {st:St} {a:Act} {w w':World} {G:Ax} (h:R F st a w G) {id:Ad} {nb:Option Nat} {nv:Option Value} (hk:BE G (Bv F G id nb nv) w w')
 {cs:List C} {vs:List Value} {row:Option (TypeId×Nat×Nat)} {pu:Bool} (hp:pu=true->Al cs=true) (hr:Ae w G cs vs):Ae w' (Bv F G id nb nv) (Ar.kill id ⟨id,row,cs,pu⟩).cs vs:=by
 cases pu with
 | true=>exact Ae.mono hk _ _ (CF (fun i hi X_=>by subst X_;have:=AL i cs (hp rfl);grind [Ar.kill])) hr
 | false=>grind [Ae.mono,CF,Ar.kill,PE,PF]
theorem KK {id:Ad} {row:Option (TypeId×Nat×Nat)} {cs:List C} {pu:Bool}:(Ar.kill id ⟨id,row,cs,pu⟩).cs.length =cs.length:=by cases pu<;>simp [Ar.kill]
theorem cB {w:World} {G:Ax} {e:Ar} (m_:e.row=none) (h: ∃ b T cur,G.blk e.id=some b/\w.heap[b]? =some (.cells cur T (0,0))/\cur.size=e.cs.length/\Ai w G e.cs b 0):AN w G e:=by unfold AN;rw [m_];obtain⟨b,T,cur,h1,h2⟩:=h;exact⟨b,h1, .inr ⟨T,cur,h2⟩⟩
theorem IR {w:World} {G:Ax} {e:Ar} {E n len:Nat} (m_:e.row=some (E,n,len)) (h:e.cs.length=len*n/\ ∃ v,G.own e.id=some v/\
 ((∃ p,v= .slice p 0 0/\len=0/\G.blk e.id=none)\/
  ∃ b cap cur,v= .slice (some ⟨b,0,none⟩) len cap/\G.blk e.id=some b/\w.heap[b]? =some (.cells cur E (0,0))/\len<=cap/\cap<=maxLen/\cur.size=cap*n/\Ai w G e.cs b 0)):AN w G e:=by
 grind [AN]
theorem MF (w:World) (cur:Array Value) (T:TypeId):(w.alloc (.cells cur T)).rangeAt w.heap.size 0 cur.toList:=by intro j v hv;simp_all
theorem R.box {F:Fr} {st:St} {a:Act} {w:World} {G:Ax} (h:R F st a w G) (id:Ad) (T:TypeId) (cs:List C) (cur:Array Value) (hr:Ae w G cs cur.toList) (pu:Bool) (hp:pu=true->Al cs=true):
 R F (st.new ⟨id,none,cs,pu⟩) a (w.alloc (.cells cur T)) (Bv F G id (some w.heap.size) none):=by
 have abe:=EP w (.cells cur T);refine h.set ⟨id,none,cs,pu⟩ (some w.heap.size) none (Fu _ _) abe.size (fun b hb _=>abe.block b hb) (fun b hb _=>abe.block b (lt_of_lt_of_le hb h.hsize)) ?_ hp ?_
 ·simp_all
 ·refine cB (Ar.abl _ _) ⟨w.heap.size,T,cur,by simp [Bv,Ar.x_],by simp [EO],by rw [KK];simpa using hr.length.symm,?_⟩;exact Ai.U_ (Fh h (h.keeps id _ _ abe.size (fun b hb _=>abe.block b hb) (by grind)) hp hr) (MF w cur T)
theorem R.row {F:Fr} {st:St} {a:Act} {w:World} {G:Ax} (h:R F st a w G) (id:Ad) (T n len cap:Nat) (cs:List C) (cur:Array Value) (vs:List Value) (hr:Ae w G cs vs) (hp:cur.toList.take vs.length=vs)
 (hl:cs.length=len*n) (hc:cur.size=cap*n) (hlc:len<=cap) (hm:cap<=maxLen) (pu:Bool) (hp':pu=true->Al cs=true):
 R F (st.new ⟨id,some (T,n,len),cs,pu⟩) a (w.alloc (.cells cur T)) (Bv F G id (some w.heap.size) (some (.slice (some ⟨w.heap.size,0,none⟩) len cap))):=by
 have abe:=EP w (.cells cur T);refine h.set ⟨id,some (T,n,len),cs,pu⟩ (some w.heap.size) _ (Fu _ _) abe.size (fun b hb _=>abe.block b hb) (fun b hb _=>abe.block b (lt_of_lt_of_le hb h.hsize)) ?_ hp' ?_
 ·simp_all
 ·refine IR (Ar.abl _ _) ⟨by rw [KK];exact hl,_,by simp_all [Bv,Ar.x_], .inr ⟨w.heap.size,cap,cur,rfl,by simp [Bv,Ar.x_],by simp [EO],hlc,hm,hc,?_⟩⟩;refine Ai.U_ (Fh h (h.keeps id _ _ abe.size (fun b hb _=>abe.block b hb) (by grind)) hp' hr) ?_;intro j v hv;refine MF w cur T j v ?_;grind
theorem R.aid {F:Fr} {st:St} {a:Act} {w:World} {G:Ax} (h:R F st a w G) (id:Ad) (T n:Nat) (p:Option Addr):
 R F (st.new ⟨id,some (T,n,0),[],true⟩) a w (Bv F G id none (some (.slice p 0 0))):=by
 refine h.set ⟨id,some (T,n,0),[],true⟩ none _ ⟨rfl,rfl,rfl⟩ (le_refl _) (fun _ _ _=>rfl) (fun _ _ _=>rfl) (by grind) (fun _=>rfl) ?_;simp only [AN,Ar.kill];exact⟨by simp, .slice p 0 0,by simp [Bv], .inl ⟨p,rfl,trivial,by simp [Bv]⟩⟩
theorem R.afc {F:Fr} {st:St} {a:Act} {w:World} {G:Ax} (h:R F st a w G) (id:Ad) (T n:Nat):
 R F (st.new ⟨id,some (T,n,0),[],true⟩) a w (Bv F G id none (some (.slice none 0 0))):=h.aid id T n none
def V.cells:V->Option (List C)
 | .c x=>some [x]
 | .agg cs=>some cs
 | _=>none
theorem GQ {w:World} {G:Ax} {x:V} {v:Value} {cs:List C} (h:Aa w G x v) (hc:x.cells=some cs):Ae w G cs v.cells.toList:=by
 unfold V.cells at hc;split at hc
 ·injection hc with hc;subst hc;simp only [Aa]at h;have:=h.one;have e:v.cells= #[v]:=by cases v<;>simp_all [Value.cells,Value.oneCell']
  grind [Ae]
 ·injection hc with hc;subst hc;simp only [Aa]at h;obtain⟨arr,rfl,hr⟩:=h;grind [Value.cells]
 ·cases hc
def MG (P:Program) (t:TypeId):Option (List C):=
 match P.info? t with
 | some i=>match i.zero with
   | some z=>CY z.cells.toList
   | none=>none
 | none=>none
theorem EQ {P:Program} {t:TypeId} {cs:List C} (h:MG P t=some cs): ∃ i z,P.info? t=some i/\i.zero=some z/\CY z.cells.toList=some cs:=by grind [MG]
theorem aap {P:Program} {t:TypeId} {i:TypeInfo} {z:Value} (hi:P.info? t=some i) (hz:i.zero=some z) (w:World):(zeroValue t).run P w= .ok z w:=by simp_all [zeroValue,typeInfo]
def GR (place:Nat->Option (Nat×Nat)) (cells:List C):List (Nat×V)->Option (List C)
 | []=>some cells
 | (i,v)::rest=>match place i,v.cells with
   | some (off,size),some cs=>if cs.length=size/\off+size<=cells.length then GR place (cells.take off++cs++cells.drop (off+size)) rest else none
   | _,_=>none
def KH (w:World) (G:Ax):List (Nat×V)->List (Nat×Value)->Prop
 | [],[]=>True
 | (i,x)::xs,(j,v)::vs=>i=j/\Aa w G x v/\KH w G xs vs
 | _,_=>False
theorem PH (vs:List Value) (off:Nat): ∀ (k:Nat) (cs:Array Value),off+k+vs.length<=cs.size->
 ((vs.zipIdx k).foldl (fun cs (c,j)=>cs.setIfInBounds (off+j) c) cs).toList =cs.toList.take (off+k)++vs++cs.toList.drop (off+k+vs.length):=by
 induction vs with
 | nil=>simp_all
 | cons v vs ih=>
   intro k cs hk;simp only [List.zipIdx_cons,foldl_cons];simp only [List.length_cons]at hk ⊢;rw [ih (k+1) _ (by simp;omega)];have Tw:off+k<cs.toList.length:=by simp;omega
   rw [Array.toList_setIfInBounds,List.set_eq_take_append_cons_drop,if_pos Tw];have e1:(cs.toList.take (off+k)).length =off+k:=by grind
   rw [List.take_append,List.drop_append,e1];rw [show off+(k+1) - (off+k)=1 by omega,show off+(k+1)+vs.length - (off+k)=vs.length+1 by omega];rw [List.take_take,show min (off+(k+1)) (off+k)=off+k by omega];have e3:List.drop (off+(k+1)+vs.length) (List.take (off+k) cs.toList)=[]:=(by grind [List.drop_of_length_le]);grind [drop_drop]
theorem GT {w:World} {G:Ax} {place:Nat->Option (Nat×Nat)}: ∀ {ps:List (Nat×V)} {qs:List (Nat×Value)} {cells out:List C} {arr:Array Value},
 GR place cells ps=some out->KH w G ps qs->Ae w G cells arr.toList-> ∃ Q_,Instr.fill place arr qs=some Q_/\Ae w G out Q_.toList
 | [],[],cells,out,arr,h,_,hr=>by simp only [GR,injEq]at h;subst h;exact⟨arr,rfl,hr⟩
 | [],_::_,_,_,_,_,h,_=>by simp [KH]at h
 | _::_,[],_,_,_,_,h,_=>by simp [KH]at h
 | (i,x)::ps,(j,v)::qs,cells,out,arr,h,hp,hr=>by
   simp only [KH]at hp;obtain⟨rfl,hv,hp⟩:=hp;simp only [GR]at h;split at h
   ·rename_i off size cs hpl hcs;split at h
    ·rename_i hb;have hvc:=GQ hv hcs;have hl:=hr.length;have hlv:=hvc.length;have e:=PH v.cells.toList off 0 arr (by simp at hl hlv ⊢;omega);simp only [Instr.fill,hpl];rw [if_neg (by simp at hl hlv ⊢;omega)];refine GT h hp ?_;rw [<-Array.foldl_toList,Array.toList_zipIdx,e];simp only [add_zero];have:v.cells.toList.length=size:=by grind
     rw [this];exact((hr.take off).append hvc).append (hr.drop (off+size))
    ·cases h
   ·cases h
end Go.PL
namespace Go.PL
open Go Go.RowKit
theorem Bp {w:World} {b:Nat} {cur:Array Value} {T:TypeId} {fr:Nat×Nat} (h:w.heap[b]? =some (.cells cur T fr)) {us rest:List Value} (e:us++rest=cur.toList):w.rangeAt b 0 us:=by
 intro j v hv;have h2:cur.toList[j]? =some v:=by grind
 grind [World.cell?]
theorem Fi {w:World} {b:Nat} {cur:Array Value} {T:TypeId} {fr:Nat×Nat} (h:w.heap[b]? =some (.cells cur T fr)) {us:List Value} (hr:w.rangeAt b 0 us):us++cur.toList.drop us.length=cur.toList:=by
 have:us=cur.toList.take us.length:=by
  apply List.ext_getElem?;intro j;by_cases hj:j<us.length
  ·have:=hr j us[j] (by simp [hj]);simp_all [World.cell?]
  grind
 grind [take_append_drop]
def St.abc (st:St) (id:Ad) (cs:List C) (q:Bool):St:={st with so:=st.so.map fun e=>if e.id==id then⟨e.id,e.row,cs,e.pu&&q⟩else e}
theorem R.stored {F:Fr} {st:St} {a:Act} {w:World} {G:Ax} (h:R F st a w G) {id:Ad} {e:Ar} (he:st.look id=some e) {b:Nat} (hb:G.blk id=some b) {off:Nat} {xs:List C} {vs:List Value}
 (hx:Ae w G xs vs) (aaC:off+xs.length<=e.cs.length):
 ∃ cur T,w.heap[b]? =some (.cells cur T (0,0))/\off+vs.length<=cur.size/\
   R F (st.abc id (e.cs.take off++xs++e.cs.drop (off+xs.length)) (Al xs)) a (w.setRow b (cur.toList.take off++vs++cur.toList.drop (off+vs.length)).toArray) G:=by
 obtain⟨hm,hid⟩:=AZ he;obtain⟨cur,T,abP,hle,m_⟩:=(h.store e hm).row (Sw he) (by rw [hid];exact hb);obtain⟨us,h1,h2⟩:=m_.list;have hlx:=hx.length;have hlu:=h1.length;have aaT:=Fi abP h2;refine⟨cur,T,abP,by omega,?_⟩;have hbl: ∀ k,k ≠ b->(w.setRow b (cur.toList.take off++vs++cur.toList.drop (off+vs.length)).toArray).heap[k]? =w.heap[k]? :=fun k hk=>setRow_other w b k _ hk;have J_:=setRow_heap w b cur (cur.toList.take off++vs++cur.toList.drop (off+vs.length)).toArray T (0,0) abP;have hk:BE G G w (w.setRow b (cur.toList.take off++vs++cur.toList.drop (off+vs.length)).toArray):=
  ⟨by simp,fun k _ hw=>hbl k (fun q=>hw ((h.wr k).2 (by grind))),fun _ _ q=>q,fun i k h1 _=>by
   by_cases hkb:k=b
   ·subst hkb;intro acb T' fz' hq;grind
   grind [BU.same]⟩
 have adw:(us.take off++vs++us.drop (off+vs.length))++cur.toList.drop us.length=(cur.toList.take off++vs++cur.toList.drop (off+vs.length)).toArray.toList :=by grind
 have adx:=Bp J_ adw;have hl2:Ae w G (e.cs.take off++xs++e.cs.drop (off+xs.length)) (us.take off++vs++us.drop (off+vs.length)):=by rw [hlx];exact((h1.take off).append hx).append (h1.drop _)
 have ad9:=Ai.U_ (Ae.mono hk _ _ (fun _ _=>⟨rfl,rfl⟩) hl2) adx;have hlen:(e.cs.take off++xs++e.cs.drop (off+xs.length)).length =e.cs.length:=by simp;omega
 have ajw:(cur.toList.take off++vs++cur.toList.drop (off+vs.length)).toArray.size =cur.size:=by simp;omega
 exact {
  dfr:=h.dfr,size:=h.size
  slots:=fun i=>Aa.mono hk _ _ (fun _ _=>⟨rfl,rfl⟩) (h.slots i)
  t_:=Ao.mono hk _ _ (fun _ _=>⟨rfl,rfl⟩) h.t_
  store:=by
   intro e' X_;simp only [St.abc,mem_map]at X_;obtain⟨d,hd,rfl⟩:=X_;split
   ·rename_i adB;replace adB:d.id=id:=by grind
    have:d=e:=by have hn:=h.nodup;have:=List.pairwise_map.1 hn;rcases mem_iff_getElem.1 hd with ⟨i,hi,rfl⟩;rcases mem_iff_getElem.1 hm with ⟨j,hj,rfl⟩;grind [List.pairwise_iff_getElem]
    subst this;have hE:=h.store d hd;unfold AN at hE ⊢;simp only;split at hE
    ·rename_i hrn;obtain⟨b',q1,hbx⟩:=hE;obtain⟨T',acb,q2,q3,q4⟩:=hbx.cells (Sw he hrn);rw [hid,hb]at q1;injection q1 with q1;subst q1;rw [abP]at q2;injection q2 with q2;injection q2 with q2a q2b;subst q2a q2b;exact⟨b,by grind, .inr ⟨T,_,J_,by rw [ajw,hlen];exact q3,ad9⟩⟩
    ·obtain⟨hl,v,q1,q2⟩:=hE;refine⟨by grind,v,q1,?_⟩;rcases q2 with q2 | ⟨b',cap,acb,e1,e2,e3,e4,e5,e6,e7⟩
     ·grind
     ·rw [hid,hb]at e2;injection e2 with e2;subst e2;rw [abP]at e3;injection e3 with e3;injection e3 with e3a e3b;subst e3a e3b;exact .inr ⟨b,cap,_,e1,by grind,J_,e4,e5,by grind,ad9⟩
   ·rename_i adB;replace adB: ¬d.id=id:=by grind
    exact BN hk (fun _ _=>⟨rfl,rfl⟩) ⟨rfl,rfl⟩ (fun k hk'=>hbl k (fun q=>adB (h.inj _ _ k hk' (by grind)))) (h.store d hd)
  deep:=by
   intro e' X_;simp only [St.abc,mem_map]at X_;obtain⟨d,hd,rfl⟩:=X_;split
   ·rename_i adB;replace adB:d.id=id:=by grind
    exact A8.ahD (h.deep d hd).1 (by grind [DP])
   ·rename_i adB;replace adB: ¬d.id=id:=by grind
    refine A8.mono hk ⟨rfl,rfl⟩ (by grind) (fun k hk'=>hbl k (fun q=>adB (h.inj _ _ k hk' (by grind)))) (fun _ k b' hb'=>hbl b' (fun q=>?_)) (h.deep d hd);have h1:Bi k d.id=id:=h.inj _ _ b' hb' (by grind);have h2:=(h.deep e hm).1;rw [hid, <-h1]at h2;cases h2
  k_:=by
   intro e' X_;simp only [St.abc,mem_map]at X_;obtain⟨d,hd,rfl⟩:=X_;split
   ·rename_i adB;replace adB:d.id=id:=by grind
    have:d=e:=by have hn:=h.nodup;have:=List.pairwise_map.1 hn;rcases mem_iff_getElem.1 hd with ⟨i,hi,rfl⟩;rcases mem_iff_getElem.1 hm with ⟨j,hj,rfl⟩;grind [List.pairwise_iff_getElem]
    subst this;intro hq;simp only [and_eq_true]at hq;simp only [Bl,and_eq_true];exact⟨⟨Jl _ (h.k_ d hd hq.1),hq.2⟩,Jm _ (h.k_ d hd hq.1)⟩
   ·exact h.k_ d hd
  nodup:=by
   have:(st.abc id (e.cs.take off++xs++e.cs.drop (off+xs.length)) (Al xs)).so.map (·.id)=st.so.map (·.id):=by simp only [St.abc,map_map];apply List.map_congr_left;grind
   rw [this];exact h.nodup
  inj:=h.inj
  lt:=fun i k hi=>by simpa using h.lt i k hi
  new:=h.new,wr:=h.wr,Tu:=h.Tu,inv:=h.inv,Kq:=h.Kq
  os:=by simpa using h.os
  tape:=by simpa using h.tape
  output:=by simpa using h.output
  hsize:=by simpa using h.hsize
  ext:=fun k hk' hold=>(hbl k (fun q=>by
   rcases h.new id b hb with q2 | q2
   all_goals grind)).trans (h.ext k hk' hold)}
theorem C8 {w:World} {G:Ax} {e:Ar} {E n len:Nat} (m_:e.row=some (E,n,len)) (h:AN w G e):
 ∃ v vs,G.own e.id=some v/\v.oneCell'=true/\Ae w G e.cs vs/\((w.ownsRow 0 E n v len vs/\v.ownBlock=G.blk e.id)\/ ∃ p,v= .slice (some p) 0 0/\len=0/\vs=[]/\G.blk e.id=none):=by
 unfold AN at h;rw [m_]at h;obtain⟨hl,v,h1,h2⟩:=h;rcases h2 with ⟨p,rfl,h0,hb⟩ | ⟨b,cap,cur,rfl,e2,e3,e4,e5,e6,e7⟩
 ·have hcs:e.cs=[]:=by simp_all
  cases p with
  | none=>exact⟨_,[],h1,rfl,by rw [hcs];simp [Ae], .inl ⟨⟨by rw [h0];simp, .inl ⟨rfl,h0⟩⟩,by rw [hb];rfl⟩⟩
  | some p=>exact⟨_,[],h1,rfl,by rw [hcs];simp [Ae],(by grind)⟩
 ·obtain⟨us,q1,q2⟩:=e7.list;have hlu:=q1.length;have aaT:=Fi e3 q2;refine⟨_,us,h1,rfl,q1, .inl ⟨⟨by omega, .inr ⟨b,cap,cur,rfl,zero_le _,e3,e4,e5,e6,?_⟩⟩,by rw [e2];rfl⟩⟩;grind
theorem R.aeU {F:Fr} {st:St} {a:Act} {w w':World} {G:Ax} (h:R F st a w G) {id:Ad} {e:Ar} (he:st.look id=some e) {E n len m:Nat}
 {v v':Value} {xs us:List Value} {cs:List C} {q:Bool} (hq:q=true->Al cs=true) (hob:v.ownBlock=G.blk id) (h1:Ae w G e.cs xs) (h2:Ae w G cs us)
 (hold:w.ownsRow 0 E n v len xs) (J_:w'.ownsRow 0 E n v' (len+m) (xs++us)) (hg:w.grownBy w' v.ownBlock) (hfr:v'.ownBlock=v.ownBlock\/ ∀ b,v'.ownBlock=some b->w.heap.size<=b):
 ∃ G',R F (st.new ⟨id,some (E,n,len+m),e.cs++cs,e.pu&&q⟩) a w' G'/\G'.own id=some v'/\v'.oneCell'=true:=by
 obtain⟨hm,hid⟩:=AZ he;have aad: ∀ b,b<w.heap.size->G.blk id ≠ some b->w'.heap[b]? =w.heap[b]? :=fun b hb n_=>hg.block b hb (by grind);have hn: ∀ b,v'.ownBlock=some b->w.heap.size<=b\/(G.blk id=some b/\BU w w' b):=by
  intro b hb;rcases hfr with q | q
  ·refine .inr ⟨by grind,?_⟩;have hb2:v.ownBlock=some b:=by grind
   intro cur T fz hc;rcases J_.2 with ⟨r,_⟩ | ⟨g,cap,acb,r,_,r2,_⟩
   ·rw [r]at hb;cases hb
   ·rw [r]at hb;simp only [Value.ownBlock,injEq]at hb;subst hb;rcases hold.2 with ⟨r3,_⟩ | ⟨g3,ams,amr,r3,_,r4,_⟩
    all_goals grind [Value.ownBlock]
  grind
 have Tw: ∀ b,v'.ownBlock=some b->b<w'.heap.size:=fun b hb=>(J_.lt b hb).2;have aa3:v'.oneCell'=true:=by rcases J_.2 with ⟨q,_⟩ | ⟨g,cap,cur,q,_⟩<;>rw [q]<;>rfl
 refine⟨Bv F G id v'.ownBlock (some v'),?_,by simp [Bv],aa3⟩;have hk:=h.keeps id v'.ownBlock (some v') hg.size aad hn;have hpq:(e.pu&&q)=true->Al (e.cs++cs)=true:=fun hx=>by simp only [and_eq_true]at hx;rw [Bl,h.k_ e hm hx.1,hq hx.2];rfl
 have alX:=Fh (row:=some (E,n,len+m)) h hk hpq (h1.append h2);refine h.set ⟨id,some (E,n,len+m),e.cs++cs,e.pu&&q⟩ v'.ownBlock (some v') ⟨hg.os,hg.tape,hg.output⟩ hg.size aad ?_ (by grind) hpq ?_
 ·intro b hb aiy;refine aad b (lt_of_lt_of_le hb h.hsize) (fun q=>?_);rcases h.new id b q with q2 | q2
  all_goals grind
 ·have hl:=h1.length;have hl2:=h2.length;have hln:=J_.1;refine IR (Ar.abl _ _) ⟨by grind [KK],v',by simp [Bv,Ar.x_],?_⟩;rcases J_.2 with ⟨q,h0⟩ | ⟨g,cap,cur,q,_,q2,q3,q4,q5,q6⟩
  ·simp_all [Bv,Value.ownBlock,Ar.x_]
  ·refine .inr ⟨g,cap,cur,q,by simp [Bv,q,Value.ownBlock,Ar.x_],q2,q3,q4,q5,?_⟩;grind [Ai.U_,Bp,take_append_drop]
theorem Cj {P:Program} {w:World} (t ty e:TypeId) (i:TypeInfo) (z:Value) (size bytes:Nat) (ht:P.underlying t=some (.slice e)) (hi:P.info? e=some i) (hz:i.zero=some z)
 (hsize:i.size=size) (hby:i.bytes=bytes) (hzs:z.cells.size=size) (Tr:0<size)
 (v:Value) (n:Nat) (xs:List Value) (z_:w.ownsRow 0 e size v n xs)
 (a:Addr) (m c:Nat) (news:List Value) (hl:news.length=m*size) (abA: ∀ j u,news[j]? =some u->w.cell? (a.add j)=some u) (h1: ∀ u∈news,u.oneCell'=true)
 (h63:n+m<=maxLen) (acV:(n+m)*bytes<=140737488355328):
 ∃ v' w',(Builtin.append_ #[t,t] ty #[v, .slice (some a) m c]).run P w= .ok v' w'/\w'.ownsRow 0 e size v' (n+m) (xs++news)/\w.grownBy w' v.ownBlock/\
   (v'.ownBlock=v.ownBlock\/ ∀ b,v'.ownBlock=some b->w.heap.size<=b):=by
 subst hsize hby
 have hM:maxLen=9223372036854775807:=rfl;have hlen:(xs++news).length =(n+m)*i.size:=by rw [List.length_append,z_.1,hl, <-add_mul]
 have grown: ∀ Tc,Tc<n+m-> ∀ row,
  (w.drew.alloc (.cells (xs.toArray++news.toArray++Builtin.zeroCells z.cells (grownCap w (n+m) Tc e - (n+m))) e)).ownsRow 0 e i.size
   (.slice (some ⟨w.heap.size,0,none⟩) (n+m) (grownCap w (n+m) Tc e)) (n+m) (xs++news)/\
  w.grownBy (w.drew.alloc (.cells (xs.toArray++news.toArray++Builtin.zeroCells z.cells (grownCap w (n+m) Tc e - (n+m))) e)) row:=by
  intro Tc ho row;have hge:=grownCap_ge w (n+m) Tc e;have hcm:grownCap w (n+m) Tc e<=maxLen:=grownCap_le_maxLen w (n+m) Tc e h63;refine⟨⟨hlen, .inr ⟨w.heap.size,_,_,rfl,zero_le _,heap_alloc_new w.drew _,hge,hcm,?_,?_⟩⟩,⟨rfl,rfl,rfl,by simp,fun k hk _=>heap_alloc_old w.drew _ hk⟩⟩
  ·simp only [Array.size_append,List.size_toArray,size_zeroCells,hzs,z_.1,hl, <-add_mul];grind
  grind
 rcases z_.2 with ⟨rfl,rfl⟩ | ⟨g,cap,cur,rfl,hbg,hg,hnc,hcm,hcs,alu⟩
 ·have hx:xs=[]:=(by simp_all);subst hx;by_cases hm:m=0
  ·subst hm;have hn:news=[]:=(by grind);subst hn;refine⟨.slice none 0 0,w,?_,(by grind),⟨rfl,rfl,rfl,le_refl _,fun _ _ _=>rfl⟩, .inl rfl⟩;simp [Builtin.append_,run_underlying ht,sizeOf,typeInfo,hi,Builtin.lenOf,Builtin.firstCells,loadCells,loadCellsFrom]
  ·have hr:=run_append_nil (P:=P) w t ty e i z ht hi hz a m c news hl abA (by omega) (by omega) (by grind);have hgr:=grown 0 (by omega) (Value.ownBlock (.slice none 0 0));simp only [Nat.zero_add,List.nil_append,Array.empty_append]at hgr ⊢;grind [Value.ownBlock]
 ·by_cases afR:n+m<=cap
  ·have aeR:n*i.size+news.length<=cur.size:=by rw [hl,hcs, <-add_mul];simp_all [Nat.mul_le_mul_right]
   have hr:=run_append_room (P:=P) w t ty e i ht hi g n cap cur hg a m c news hl abA h1 afR aeR;refine⟨_,_,hr,⟨hlen, .inr ⟨g,cap,_,rfl,hbg,setRow_heap w g cur _ e _ hg,afR,hcm,?_,?_⟩⟩,⟨rfl,rfl,rfl,by simp,(by grind [setRow_other,Value.ownBlock])⟩, .inl rfl⟩
   all_goals grind
  ·have holds: ∀ j u,xs[j]? =some u->w.cell? ((⟨g,0,none⟩:Addr).add j)=some u:=z_.cells (g:=g) rfl;have hr:=run_append_grow (P:=P) w t ty e i z ht hi hz ⟨g,0,none⟩ n cap xs z_.1 holds a m c news hl abA (by omega) (by omega) (growslice_fits (by omega) acV);have hgr:=grown cap (by omega) (Value.ownBlock (.slice (some ⟨g,0,none⟩) n cap));grind [Value.ownBlock]
theorem R.agm {F:Fr} {st:St} {a:Act} {w:World} {G:Ax} (h:R F st a w G) {id:Ad} {e:Ar} {E n:Nat} {p:Addr} (pu:Bool) (hcs:e.cs=[]):
 ∃ G',R F (st.new ⟨id,some (E,n,0+0),e.cs++[],pu⟩) a w G'/\G'.own id=some (.slice (some p) 0 0):=by
 refine⟨Bv F G id none (some (.slice (some p) 0 0)),?_,by simp [Bv]⟩;rw [hcs];refine h.set ⟨id,some (E,n,0+0),[]++[],pu⟩ none _ ⟨rfl,rfl,rfl⟩ (le_refl _) (fun _ _ _=>rfl) (fun _ _ _=>rfl) (by grind) (fun _=>rfl) ?_;refine IR (Ar.abl _ _) ⟨by rw [KK];simp,_,by simp_all [Bv,Ar.x_], .inl ⟨some p,rfl,rfl,by simp [Bv,Ar.x_]⟩⟩
theorem DQ {P:Program} {w:World} (t ty e:TypeId) (i:TypeInfo) (z:Value) (size bytes:Nat) (ht:P.underlying t=some (.slice e)) (hi:P.info? e=some i) (hz:i.zero=some z)
 (hsize:i.size=size) (hby:i.bytes=bytes) (hzs:z.cells.size=size) (Tr:0<size) (p:Addr)
 (a:Addr) (m c:Nat) (news:List Value) (hl:news.length=m*size) (abA: ∀ j u,news[j]? =some u->w.cell? (a.add j)=some u) (hm:0<m)
 (h63:m<=maxLen) (acV:m*bytes<=140737488355328):
 ∃ v' w',(Builtin.append_ #[t,t] ty #[.slice (some p) 0 0, .slice (some a) m c]).run P w= .ok v' w'/\w'.ownsRow 0 e size v' m news/\w.grownBy w' none/\
   ∀ b,v'.ownBlock=some b->w.heap.size<=b:=by
 subst hsize hby
 have hM:maxLen=9223372036854775807:=rfl;have hr:=run_append_grow (P:=P) w t ty e i z ht hi hz p 0 0 [] (by simp) (by grind) a m c news hl abA (by omega) (by omega) (by simp_all [growslice_fits]);have hge:=grownCap_ge w (0+m) 0 e;have hcm:grownCap w (0+m) 0 e<=maxLen:=grownCap_le_maxLen w (0+m) 0 e (by omega);refine⟨_,_,hr,⟨hl, .inr ⟨w.heap.size,_,_,by simp,zero_le _,heap_alloc_new w.drew _,by grind,hcm,?_,?_⟩⟩,⟨rfl,rfl,rfl,by simp,fun k hk _=>heap_alloc_old w.drew _ hk⟩,(by grind [Value.ownBlock])⟩
 ·simp only [Array.size_append,List.size_toArray,size_zeroCells,hzs,hl, <-add_mul,List.length_nil,Nat.zero_add]at hge ⊢;grind
 grind
end Go.PL
namespace Go.PL
open Go Go.RowKit
mutual
def V.pure:V->Bool
 | .c x=>x.pure
 | .agg cs=>Al cs
 | .tup vs=>BA vs
 | .g b v=> !b||v.pure
 | .undef =>true
def BA:List V->Bool
 | []=>true
 | v::vs=>v.pure&&BA vs
end
mutual
theorem LW (id:Ad): ∀ v:V,v.pure=true->v.g_ id=false
 | .c x,h=>by grind [V.g_,Fo,V.pure]
 | .agg cs,h=>by grind [V.g_,AL,V.pure]
 | .tup vs,h=>by simp only [V.g_];exact TA id vs (by simpa only [V.pure] using h)
 | .g b v,h=>by
   cases b with
   | false=>simp [V.g_]
   | true=>simp only [V.pure,Bool.not_true,Bool.false_or]at h;simp [V.g_,LW id v h]
 | .undef,_=>by simp [V.g_]
theorem TA (id:Ad): ∀ vs:List V,BA vs=true->Ij id vs=false
 | [],_=>by simp [Ij]
 | v::vs,h=>by simp only [BA,and_eq_true]at h;simp [Ij,LW id v h.1,TA id vs h.2]
end
def im (av:Nat->Prop):Ax:=⟨fun _=>none,fun _=>none,av⟩
theorem TB {w:World} {av:Nat->Prop} {G:Ax} (hG: ∀ b,b<w.heap.size->G.wr b->av b) {x:V} {v:Value} (hp:x.pure=true) (h:Aa w (im av) x v):Aa w G x v:=
 Aa.mono (G:=im av) (G':=G) ⟨le_refl _,fun _ _ _=>rfl,fun b hb hw=>hG b hb hw,fun _ _ _ _=>BU.same rfl⟩ x v (fun id hid=>absurd (show x.g_ id=true from hid) (by rw [LW id x hp];simp)) h
theorem lr {w:World} {av:Nat->Prop} {G:Ax} (hG: ∀ b,b<w.heap.size->av b->G.wr b) {x:V} {v:Value} (hp:x.pure=true) (h:Aa w G x v):Aa w (im av) x v:=
 Aa.mono (G:=G) (G':=im av) ⟨le_refl _,fun _ _ _=>rfl,fun b hb hw=>hG b hb hw,fun _ _ _ _=>BU.same rfl⟩ x v (fun id hid=>absurd (show x.g_ id=true from hid) (by rw [LW id x hp];simp)) h
def HJ (id:Ad) (len:Nat) (cs:List C):C->C
 | .l_ i=>if i=id then .sl len cs else .l_ i
 | .ptr i o=>if i=id then .any else .ptr i o
 | .bsl i o n=>if i=id then .any else .bsl i o n
 | .rsl i N o n=>if i=id then .any else .rsl i N o n
 | .bld i T=>if i=id then .any else .bld i T
 | .acA i=>if i=id then .any else .acA i
 | .clo f ds=>if Bm id ds then .any else .clo f ds
 | .bmv f ds=>if Bm id ds then .any else .bmv f ds
 | c=>c
mutual
def IS (id:Ad) (len:Nat) (cs:List C):V->V
 | .c x=> .c (HJ id len cs x)
 | .agg ds=> .agg (ds.map (HJ id len cs))
 | .tup vs=> .tup (J6 id len cs vs)
 | .g b v=> .g b (IS id len cs v)
 | .undef => .undef
def J6 (id:Ad) (len:Nat) (cs:List C):List V->List V
 | []=>[]
 | v::vs=>IS id len cs v::J6 id len cs vs
end
def Ar.frz (id:Ad) (len:Nat) (cs:List C) (e:Ar):Ar:=match e with
 | ⟨i,r,ds,true⟩=>⟨i,r,ds,true⟩
 | ⟨i,r,ds,false⟩=>⟨i,r,ds.map (HJ id len cs),false⟩
theorem Ar.aeA (id:Ad) (len:Nat) (cs:List C) (e:Ar):(e.frz id len cs).id =e.id:=by obtain⟨i,r,cs,_ | _⟩:=e<;>rfl
theorem Ar.ajI {id:Ad} {len:Nat} {cs:List C} {e:Ar} {kv:List (Int×Int)} (h:e.cs=[.mp kv]):(e.frz id len cs).cs =[.mp kv]:=by
 obtain⟨i,r,ds,_ | _⟩:=e
 ·simp only at h;subst h;rfl
 ·exact h
theorem Ar.ah_ (id:Ad) (len:Nat) (cs:List C) (e:Ar):(e.frz id len cs).row =e.row:=by obtain⟨i,r,cs,_ | _⟩:=e<;>rfl
def St.freeze (st:St) (id:Ad):St:=
 match st.look id with
 | some e=>match e.row with
   | some (_,_,len)=>if !e.pu then st else
    {tm:=st.tm.map (IS id len e.cs),so:=(st.so.filter (fun d=>d.id != id)).map (Ar.frz id len e.cs),gh:=J6 id len e.cs st.gh,pre:=st.pre}
   | none=>st
 | none=>st
section
variable {F:Fr} {w:World} {G:Ax} {id:Ad} {len:Nat} {cs:List C}
structure Frz (F:Fr) (w:World) (G:Ax) (id:Ad) (len:Nat) (cs:List C):Prop where
 own: ∀ v,G.own id=some v->Ab w (Bv F G id none none) (.sl len cs) v
 keeps:BE G (Bv F G id none none) w w
theorem cC (hf:Frz F w G id len cs) {c:C} {v:Value} (h:Ab w G c v):Ab w (Bv F G id none none) (HJ id len cs c) v:=by
 have hm: ∀ d:C,d.g_ id=false->Ab w G d v->Ab w (Bv F G id none none) d v:=fun d hd hr=>
  Ab.mono hf.keeps d v (by grind [CF]) hr
 cases c with
 | l_ i=>
   simp only [HJ];split
   ·rename_i hi;subst hi;simp only [Ab]at h;exact hf.own v h.1
   grind [C.g_]
 | ptr i o=>
   simp only [HJ];split
   ·simp only [Ab];exact h.one
   grind [C.g_]
 | bsl i o n=>
   simp only [HJ];split
   ·simp only [Ab];exact h.one
   grind [C.g_]
 | rsl i N o n=>
   simp only [HJ];split
   ·simp only [Ab];exact h.one
   grind [C.g_]
 | bld i T=>
   simp only [HJ];split
   ·simp only [Ab];exact h.one
   grind [C.g_]
 | sl l ds=>exact hm (.sl l ds) (by simp [C.g_]) h
 | aaq ds o=>exact hm (.aaq ds o) (by simp [C.g_]) h
 | int k n=>exact hm (.int k n) (by simp [C.g_]) h
 | bool b=>exact hm (.bool b) (by simp [C.g_]) h
 | str s=>exact hm (.str s) (by simp [C.g_]) h
 | aaJ=>exact hm (.aaJ) (by simp [C.g_]) h
 | K_=>exact hm (.K_) (by simp [C.g_]) h
 | P_=>exact hm (.P_) (by simp [C.g_]) h
 | fn f=>exact hm (.fn f) (by simp [C.g_]) h
 | clo f ds=>
   simp only [HJ];split
   ·simp only [Ab];exact h.one
   grind [C.g_]
 | bmv f ds=>
   simp only [HJ];split
   ·simp only [Ab];exact h.one
   grind [C.g_]
 | held=>exact hm (.held) (by simp [C.g_]) h
 | any=>exact hm (.any) (by simp [C.g_]) h
 | acA i=>
   simp only [HJ];split
   ·simp only [Ab];exact h.one
   grind [C.g_]
 | mp kv=>exact hm (.mp kv) (by simp [C.g_]) h
 | acE g o=>exact hm (.acE g o) (by simp [C.g_]) h
 | isl E n l ds=>exact hm (.isl E n l ds) (by simp [C.g_]) h
theorem TC (hf:Frz F w G id len cs): ∀ {ds:List C} {vs:List Value},Ae w G ds vs->Ae w (Bv F G id none none) (ds.map (HJ id len cs)) vs
 | [],[],_=>by simp [Ae]
 | [],_::_,h=>by simp [Ae]at h
 | _::_,[],h=>by simp [Ae]at h
 | c::ds,v::vs,h=>by simp only [Ae]at h;simp only [map_cons,Ae];exact⟨cC hf h.1,TC hf h.2⟩
mutual
theorem TD (hf:Frz F w G id len cs): ∀ (x:V) (v:Value),Aa w G x v->Aa w (Bv F G id none none) (IS id len cs x) v
 | .c x,v,h=>by grind [Aa,IS,cC]
 | .agg ds,v,h=>by grind [Aa,IS,TC]
 | .tup vs,v,h=>by simp only [Aa,IS]at h ⊢;obtain⟨arr,e,hr⟩:=h;exact⟨arr,e,PI hf vs _ hr⟩
 | .g b x,v,h=>by
   simp only [Aa,IS]at h ⊢;split
   all_goals simp_all [TD]
 | .undef,_,_=>by simp only [Aa,IS]
theorem PI (hf:Frz F w G id len cs): ∀ (xs:List V) (vs:List Value),Ao w G xs vs->Ao w (Bv F G id none none) (J6 id len cs xs) vs
 | [],_,h=>by grind [Ao,J6]
 | x::xs,vs,h=>by simp only [Ao,J6]at h ⊢;obtain⟨v,r,e,h1,h2⟩:=h;exact⟨v,r,e,TD hf x v h1,PI hf xs r h2⟩
end
end
theorem R.frz {F:Fr} {st:St} {a:Act} {w:World} {G:Ax} (h:R F st a w G) {id:Ad} {e:Ar} (he:st.look id=some e) {E n len:Nat} (m_:e.row=some (E,n,len)) (hpu:Al e.cs=true):
 Frz F w G id len e.cs where
 keeps:=h.keeps id none none (le_refl _) (fun _ _ _=>rfl) (by grind)
 own:=by
  intro v hv;obtain⟨hm,hid⟩:=AZ he;have hE:=h.store e hm;unfold AN at hE;rw [m_]at hE;obtain⟨hl,v',h1,h2⟩:=hE;rw [hid,hv]at h1;injection h1 with h1;subst h1;have aov:=AL id e.cs hpu;simp only [Ab];refine⟨hpu,?_⟩;rcases h2 with ⟨p,rfl,h0,_⟩ | ⟨b,cap,cur,rfl,e2,e3,e4,e5,e6,e7⟩
  ·refine⟨p,0,by rw [h0],by omega,by grind,fun _=>?_, .inl h0⟩;simp_all
  ·rw [hid]at e2;refine⟨_,cap,rfl,e4,e5,fun h0=>?_, .inr ⟨b,0,rfl,?_,h.lt id b e2,?_⟩⟩
   ·simp_all
   ·simp only [Bv];rintro(q | ⟨i,q⟩)
    ·rcases h.new id b e2 with q2 | q2
     ·have:=h.Tu b q;omega
     ·exact h.Kq b q2 q
    ·split at q
     ·cases q
     ·rename_i hi;exact hi (h.inj i id b q e2)
   ·have hk:=h.keeps id none none (le_refl _) (fun _ _ _=>rfl) (by grind);exact Ai.mono hk _ _ _ (by grind [CF]) (fun _=>rfl) e7
def St.aaI (st:St) (id:Ad):Bool:=
 match st.look id with
 | some e=>match e.row with
   | some _=>e.pu
   | none=>false
 | none=>false
theorem R.freeze {F:Fr} {st:St} {a:Act} {w:World} {G:Ax} (h:R F st a w G) (id:Ad):
 ∃ G',R F (st.freeze id) a w G'/\(∀ b,G'.wr b->G.wr b)/\(st.aaI id=true-> ∀ b,G.blk id=some b-> ¬G'.wr b):=by
 have hid: ∀ b,G.wr b->G.wr b:=fun _ q=>q;unfold St.freeze;split
 ·rename_i e he;split
  ·rename_i E n len m_;split
   ·grind [St.aaI]
   ·rename_i aov;have hm0:=(AZ he).1;have hf:=h.frz he m_ (h.k_ e hm0 (by grind));refine⟨Bv F G id none none,h.rename id none none ⟨rfl,rfl,rfl⟩ (le_refl _) (fun _ _ _=>rfl) (by grind) _ (by simp) ?_ ?_ ?_ ?_ ?_ ?_,?_,?_⟩
    rotate_right 2
    ·intro b hb;simp only [Bv]at hb;rw [h.wr];grind
    ·intro _ b hb hw;simp only [Bv]at hw;rcases hw with q | ⟨i,q⟩
     ·rcases h.new id b hb with q2 | q2
      ·have:=h.Tu b q;omega
      ·exact h.Kq b q2 q
     ·split at q
      ·cases q
      ·rename_i hi;exact hi (h.inj i id b q hb)
    ·intro i;simp only;rw [D7 (st:=st) (by simp [IS])];exact TD hf _ _ (h.slots i)
    ·exact PI hf _ _ h.t_
    ·intro d hd;simp only [mem_map,mem_filter]at hd;obtain⟨d',⟨Y_,n_⟩,rfl⟩:=hd;have:=h.k_ d' Y_;obtain⟨i,r,ds,pu⟩:=d';cases pu with
     | true=>exact this
     | false=>intro hq;cases hq
    ·intro d hd;simp only [mem_map,mem_filter]at hd;obtain⟨d',⟨Y_,n_⟩,rfl⟩:=hd;have abD:d'.id ≠ id:=by grind
     have hE:=h.store d' Y_;have hpd:=h.k_ d' Y_;have m_: ∀ {b o},Ai w G d'.cs b o->Ai w (Bv F G id none none) (d'.frz id len e.cs).cs b o:=fun hr=>by
      obtain⟨vs,q1,q2⟩:=hr.list;obtain⟨i,r,ds,pu⟩:=d';cases pu with
      | true=>exact Ai.mono hf.keeps _ _ _ (CF (fun j hj he=>by subst he;have hj':Bm j ds=true:=hj;rw [AL j ds (hpd rfl)]at hj';cases hj')) (fun _=>rfl) hr
      | false=>exact Ai.U_ (TC hf q1) q2
     have hlen:(d'.frz id len e.cs).cs.length =d'.cs.length:=by obtain⟨i,r,ds,_ | _⟩:=d'<;>simp [Ar.frz]
     have hfi:=Ar.aeA id len e.cs d';have hfr:=Ar.ah_ id len e.cs d';unfold AN at hE ⊢;rw [hfr];have eb:(Bv F G id none none).blk d'.id=G.blk d'.id:=by simp [Bv,abD]
     have eo:(Bv F G id none none).own d'.id=G.own d'.id:=by simp [Bv,abD]
     rw [hfi,eb,eo];split at hE
     ·obtain⟨b,q1,q2⟩:=hE;refine⟨b,q1,?_⟩;rcases q2 with ⟨kv,es,q2,q3⟩ | ⟨T,cur,q2,q3,q4⟩
      ·exact .inl ⟨kv,es,Ar.ajI q2,q3⟩
      ·exact .inr ⟨T,cur,q2,by rw [hlen];exact q3,m_ q4⟩
     ·obtain⟨hl,v,q1,q2⟩:=hE;refine⟨by grind,v,q1,?_⟩;rcases q2 with q2 | ⟨b,cap,cur,e1,e2,e3,e4,e5,e6,e7⟩
      ·grind
      ·exact .inr ⟨b,cap,cur,e1,e2,e3,e4,e5,e6,m_ e7⟩
    ·intro d hd;simp only [mem_map,mem_filter]at hd;obtain⟨d',⟨Y_,n_⟩,rfl⟩:=hd;have abD:d'.id ≠ id:=by grind
     have hmk: ∀ k,Bi k d'.id ≠ id:=fun k q=>by have h2:=(h.deep e hm0).1;rw [(AZ he).2, <-q]at h2;cases h2
     have hD:A8 w G (d'.frz id len e.cs):=by
      have h1:=h.deep d' Y_;obtain⟨i,r,ds,pu⟩:=d';cases pu with
      | true=>exact h1
      | false=>exact⟨h1.1,fun hq=>absurd (h1.2 hq).1 (by simp)⟩
     have hfi:=Ar.aeA id len e.cs d';exact A8.mono hf.keeps (by grind [Bv]) (by grind [Bv]) (fun _ _=>rfl) (fun _ _ _ _=>rfl) hD
    ·have:(((st.so.filter (fun d=>d.id != id)).map (Ar.frz id len e.cs)).map (·.id))=(st.so.filter (fun d=>d.id != id)).map (·.id):=by simp_all [Ar.aeA]
     simp only;rw [this];exact List.Sublist.nodup (by grind [List.filter_sublist]) h.nodup
  grind [St.aaI]
 grind [St.aaI]
end Go.PL
namespace Go.PL
open Go Go.RowKit
theorem QS {w:World} {G:Ax}: ∀ {cs:List C} {vs:List Value},cs.length=vs.length->(∀ (i:Nat) (c:C) (v:Value),cs[i]? =some c->vs[i]? =some v->Ab w G c v)->Ae w G cs vs
 | [],[],_,_=>by simp [Ae]
 | [],_::_,h,_=>by simp at h
 | _::_,[],h,_=>by simp at h
 | c::cs,v::vs,h,hr=>by simp only [Ae];exact⟨hr 0 c v (by simp) (by simp),QS (by simpa using h) (fun i c' v' h1 h2=>hr (i+1) c' v' (by simpa using h1) (by simpa using h2))⟩
def BB (z:List C) (k:Nat):List C:=(List.range (k*z.length)).map (fun i=>z.getD (i % z.length) .any)
theorem IT {w:World} {G:Ax} {z:List C} {zv:Array Value} (h:Ae w G z zv.toList) (hz:0<z.length) (k:Nat):
 Ae w G (BB z k) ((Array.range (k*zv.size)).map (zv[· % zv.size]!)).toList :=by
 have hl:z.length=zv.size:=by simpa using h.length
 refine QS (by simp [BB,hl]) (fun i c v h1 h2=>?_);simp only [BB,List.getElem?_map]at h1;simp only [Array.toList_map,List.getElem?_map,Array.toList_range]at h2;by_cases hi:i<k*z.length
 ·rw [List.getElem?_range (by omega)]at h1;rw [List.getElem?_range (by rw [<-hl];omega)]at h2;simp only [map_some,injEq]at h1 h2;have hm:i % z.length<z.length:=Nat.mod_lt _ hz;obtain⟨v',q1,q2⟩:=h.get (i % z.length) z[i % z.length] (by simp [hm]);grind
 grind
theorem cD: ∀ {v:Value} {c:C},B3 v=some c->c.pure=true:=by intro v c h;unfold B3 at h;split at h<;>first | (cases h;done) | (injection h with h;subst h;rfl)
theorem QT: ∀ {vs:List Value} {cs:List C},CY vs=some cs->Al cs=true
 | [],cs,h=>by simp [CY]at h;subst h;rfl
 | v::vs,cs,h=>by
   unfold CY at h;split at h
   ·rename_i c Tk h1 h2;injection h with h;subst h;simp only [Al,cD h1,QT h2,Bool.and_self]
   ·cases h
theorem QU {z:List C} (h:Al z=true) (k:Nat):Al (BB z k)=true:=LU _ (fun _=>nl _ h) _
def TF:Value->Option C
 | .slice none 0 0=>some .P_
 | v=>B3 v
def F4:List Value->Option (List C)
 | []=>some []
 | v::vs=>match TF v,F4 vs with
   | some c,some cs=>some (c::cs)
   | _,_=>none
theorem cE {w:World} {G:Ax}: ∀ {v:Value} {c:C},TF v=some c->Ab w G c v:=by grind [TF,Ab,MZ]
theorem HP {w:World} {G:Ax}: ∀ {vs:List Value} {cs:List C},F4 vs=some cs->Ae w G cs vs
 | [],cs,h=>by grind [F4,Ae]
 | v::vs,cs,h=>by
   unfold F4 at h;split at h
   ·rename_i c Tk h1 h2;injection h with h;subst h;simp only [Ae];exact⟨cE h1,HP h2⟩
   ·cases h
def TG (P:Program) (t:TypeId):Option (List C):=
 match P.info? t with
 | some i=>match i.zero with
   | some z=>F4 z.cells.toList
   | none=>none
 | none=>none
theorem M6 {P:Program} {t:TypeId} {cs:List C} (h:TG P t=some cs): ∃ i z,P.info? t=some i/\i.zero=some z/\F4 z.cells.toList=some cs:=by grind [TG]
def EJ:C->C
 | .P_ => .sl 0 []
 | c=>c
def V.acv:V->V
 | .c x=> .c (EJ x)
 | .agg cs=> .agg (cs.map EJ)
 | v=>v
def QV (p:Nat×V):Nat×V:=(p.1,p.2.acv)
theorem Gv {w:World} {G:Ax} {c:C} {v:Value} (h:Ab w G c v):Ab w G (EJ c) v:=by
 cases c<;>try exact h
 simp only [Ab]at h;subst h;simp only [EJ,Ab];exact⟨rfl,none,0,rfl,le_refl _,zero_le _,fun _=>trivial, .inl trivial⟩
theorem PJ {w:World} {G:Ax}: ∀ {cs:List C} {vs:List Value},Ae w G cs vs->Ae w G (cs.map EJ) vs
 | [],[],_=>by simp [Ae]
 | [],_::_,h=>by grind
 | _::_,[],h=>by simp [Ae]at h
 | c::cs,v::vs,h=>by simp only [Ae]at h;simp only [map_cons,Ae];exact⟨Gv h.1,PJ h.2⟩
theorem nC {w:World} {G:Ax} {x:V} {v:Value} (h:Aa w G x v):Aa w G x.acv v:=by cases x<;>grind [V.acv,Aa,Gv,PJ]
structure Eff (P:Program) (F:Fr) (o:Oper) (a:Act) (w:World) (an:St):Prop where
 out: ∃ nx w' G',(execOp a.eval o).run P w= .ok nx w'/\((∃ v,nx= .value v/\R F an (a.put o.dst v) w' G')\/(nx= .skip /\R F an (a.put o.dst Go.undef) w' G'))
def St.parts (st:St) (g:Bool) (ps:List (Nat×Operand)):Prop×List (Nat×V):=
 match ps with
 | []=>(True,[])
 | (i,x)::r=>((st.arg g x).1/\(St.parts st g r).1,(i,(st.arg g x).2)::(St.parts st g r).2)
theorem R.parts {F:Fr} {st:St} {a:Act} {w:World} {G:Ax} (h:R F st a w G) {g:Bool} (hg:g=true): ∀ {ps:List (Nat×Operand)},(st.parts g ps).1->KH w G (st.parts g ps).2 (ps.map fun(i,x)=>(i,a.eval x))
 | [],_=>by simp [St.parts,KH]
 | (i,x)::r,hs=>by simp only [St.parts]at hs ⊢;simp only [map_cons,KH];exact⟨trivial,h.arg hg hs.1,h.parts hg hs.2⟩
def p9 (P:Program) (t:TypeId) (i:Nat):Option (Nat×Nat):=
 match P.underlying t with
 | some (.array _ e)=>match P.info? e with
   | some inf=>some (i*inf.size,inf.size)
   | none=>none
 | some (.struct fs)=>match fs.toList.mapM (fun f=>(P.info? f.type).map fun i=>(f.offset,i.size))with
   | some ps=>ps[i]?
   | none=>none
 | _=>none
def cF (P:Program) (t:TypeId):Bool:=
 match P.underlying t with
 | some (.array _ e)=>(P.info? e).isSome
 | some (.struct fs)=>(fs.toList.mapM (fun f=>(P.info? f.type).map fun i=>(f.offset,i.size))).isSome
 | _=>false
def KM (P:Program) (st:St) (g:Bool) (t:TypeId) (ps:List (Nat×Operand)):Prop×V:=
 match TG P t with
 | some z=>match GR (p9 P t) z (st.parts g ps).2 with
   | some cs=>((st.parts g ps).1/\cF P t=true, .agg cs)
   | none=>no
 | none=>no
def NX (st:St) (n:Nat):V->Option (Nat×List C×Bool)
 | .c (.sl m cs)=>if cs.length=m*n then some (m,cs,true)else none
 | .c (.l_ id)=>match st.look id with
   | some e=>match e.row with
     | some (_,n',m)=>if n'=n then some (m,e.cs,e.pu)else none
     | none=>none
   | none=>none
 | _=>none
def Cw (P:Program) (t:TypeId):Option (TypeId×Nat×Nat):=
 match P.underlying t with
 | some (.slice e)=>match P.info? e with
   | some i=>match i.zero with
     | some z=>if z.cells.size=i.size then some (e,i.size,i.bytes)else none
     | none=>none
   | none=>none
 | _=>none
def ER (P:Program) (st:St) (T:TypeId) (x y:V):Prop×St:=
 match x,y.cells,FW P T with
 | .c (.ptr id off),some cs,some (_,n)=>match st.look id with
   | some e=>(cs.length=n/\off+n<=e.cs.length,st.abc id (e.cs.take off++cs++e.cs.drop (off+cs.length)) (Al cs))
   | none=>(False,st)
 | _,_,_=>(False,st)
def Em (P:Program) (st:St) (d:Nat) (t:TypeId) (s x:V):Prop×St:=
 match s,Cw P t with
 | .c (.l_ id),some (E,n,by')=>match st.look id,NX st n x with
   | some e,some (m,cs,q)=>match e.row with
     | some (E',n',len)=>(E'=E/\n'=n/\0<n/\(len+m)*by'<=140737488355328/\len+m<=maxLen,(st.new ⟨id,some (E,n,len+m),e.cs++cs,e.pu&&q⟩).put (some d) (.c (.l_ id)))
     | none=>(False,st)
   | _,_=>(False,st)
 | _,_=>(False,st)
def QW (P:Program) (st:St) (d:Nat) (t:TypeId) (x y:V):Prop×St:=
 match x,y,Ck P t with
 | .c (.bsl id off len), .c (.bsl id2 acz aag),some (_,1)=>match st.look id,st.look id2 with
   | some e,some e2=>(off+Nat.min aag len<=e.cs.length/\acz+Nat.min aag len<=e2.cs.length,
    (st.abc id (e.cs.take off++(e2.cs.drop acz).take (Nat.min aag len)++e.cs.drop (off+((e2.cs.drop acz).take (Nat.min aag len)).length)) (Al ((e2.cs.drop acz).take (Nat.min aag len)))).put (some d) (.c (.int .i64 (Nat.min aag len:Nat))))
   | _,_=>(False,st)
 | _,_,_=>(False,st)
def HQ (P:Program) (st:St) (d:Nat) (t:TypeId) (l c:V):Prop×St:=
 match l,c,Cw P t with
 | .c (.int _ l), .c (.int _ c),some (E,n,by')=>match MG P E with
   | some z=>(0<=l/\l<=c/\c*by'<=140737488355328/\c<=maxLen/\z.length=n/\0<n,(st.new ⟨d::st.pre,some (E,n,l.toNat),BB z l.toNat,true⟩).put (some d) (.c (.l_ (d::st.pre))))
   | none=>(False,st)
 | _,_,_=>(False,st)
def AS (P:Program) (st:St) (d:Nat) (t:TypeId) (len:Nat) (ps:List (Nat×Operand)):Prop×St:=
 match Cw P t with
 | some (E,n,_)=>match MG P E with
   | some z=>match GR (fun i=>some (i*n,n)) (BB z len) ((st.parts true ps).2.map QV)with
     | some cs=>((st.parts true ps).1/\z.length=n/\0<n/\len*n<=2 ^ 24,(st.new ⟨d::st.pre,some (E,n,len),cs,Al cs⟩).put (some d) (.c (.l_ (d::st.pre))))
     | none=>(False,st)
   | none=>(False,st)
 | none=>(False,st)
def ij:Operand->V->V
 | .const (.slice none 0 0),_=> .c .P_
 | _,v=>v
def R7 (st:St) (x v:V):V:=
 match v with
 | .c .P_ =>match x with
   | .c (.ptr id _)=>match st.look id with
     | some e=>match e.row with
       | some _=> .c (.sl 0 [])
       | none=>v
     | none=>v
   | _=>v
 | _=>v
theorem cG {w:World} {G:Ax} {st:St} {x v:V} {u:Value} (h:Aa w G v u):Aa w G (R7 st x v) u:=by
 unfold R7;split
 ·have h2:Aa w G (.c (.sl 0 [])) u:=by simp only [Aa]at h ⊢;exact Gv h
  grind
 ·exact h
theorem cH {w:World} {G:Ax} {a:Act} {y:Operand} {v:V} (h:Aa w G v (a.eval y)):Aa w G (ij y v) (a.eval y):=by
 unfold ij;split
 ·simp only [Aa,Ab];rfl
 ·exact h
def ef (P:Program) (st:St) (o:Oper):Prop×St:=
 match o.op with
 | .store T x y=>let r:=ER P st T (st.arg true x).2 (R7 st (st.arg true x).2 (ij y (st.arg true y).2))
   ((st.arg true x).1/\(st.arg true y).1/\r.1,r.2.put o.dst .undef)
 | op=>match o.dst with
   | none=>(False,st)
   | some d=>match op with
     | .alloc T=>match TG P T with
       | some cs=>(True,(st.new ⟨d::st.pre,none,cs,false⟩).put (some d) (.c (.ptr (d::st.pre) 0)))
       | none=>(False,st)
     | .box T x=>match (st.arg true x).2.cells with
       | some cs=>((st.arg true x).1/\T=T,(st.new ⟨d::st.pre,none,cs,false⟩).put (some d) (.c (.ptr (d::st.pre) 0)))
       | none=>(False,st)
     | .assign (.const (.slice none 0 0))=>match Ck P o.type with
       | some (E,n)=>(True,(st.new ⟨d::st.pre,some (E,n,0),[],true⟩).put (some d) (.c (.l_ (d::st.pre))))
       | none=>(False,st)
     | .buildSlice t len ps=>AS P st d t len ps.toList
     | .makeSlice t l c=>let r:=HQ P st d t (st.arg true l).2 (st.arg true c).2
       ((st.arg true l).1/\(st.arg true c).1/\r.1,r.2)
     | .call c=>match c.callee,c.args.toList,c.argTypes.toList with
       | .builtin .append,[s,x],[t,t']=>let r:=Em P st d t (st.arg true s).2 (st.arg true x).2
         ((st.arg true s).1/\(st.arg true x).1/\t=t'/\r.1,r.2)
       | .builtin .copy,[s,x],[t,t']=>let r:=QW P st d t (st.arg true s).2 (st.arg true x).2
         ((st.arg true s).1/\(st.arg true x).1/\t'=t'/\r.1,r.2)
       | _,_,_=>(False,st)
     | _=>(False,st)
theorem LX {w:World} {G:Ax}: ∀ {xs:List (Nat×V)} {ys:List (Nat×Value)},KH w G xs ys->KH w G (xs.map QV) ys
 | [],[],h=>h
 | (i,x)::xs,(j,v)::ys,h=>by simp only [KH]at h;simp only [map_cons,QV,KH];exact⟨h.1,nC h.2.1,LX h.2.2⟩
 | [],_::_,h=>by grind
 | _::_,[],h=>by simp [KH]at h
theorem Zx {P:Program} {F:Fr} {st:St} {a:Act} {w:World} {G:Ax} (h:R F st a w G) {g:Bool} (hg:g=true) {t:TypeId} {ps:Array (Nat×Operand)} (hs:(KM P st g t ps.toList).1):
 ∃ v,Aa w G (KM P st g t ps.toList).2 v/\ ∀ w',(Instr.build t (ps.map fun(i,x)=>(i,a.eval x))).run P w'= .ok v w':=by
 unfold KM at *;split at hs
 ·rename_i z hz;split at hs
  ·rename_i cs hf;obtain⟨i,zv,hi,hzv,hc⟩:=M6 hz;obtain⟨Q_,q1,q2⟩:=GT hf (h.parts hg hs.1) (HP (w:=w) (G:=G) hc);refine⟨.agg Q_,⟨Q_,rfl,q2⟩,fun w'=>run_build w' t _ Q_ ?_⟩;have hok:=hs.2;unfold cF at hok;unfold Program.built;rw [hi];split at hok
   ·rename_i n e hu;cases hie:P.info? e with
    | none=>grind
    | some ie=>
      simp only [hu,hzv,hie];have e1:p9 P t=fun i=>some (i*ie.size,ie.size):=by grind [p9]
      simp_all
   ·rename_i fs hu;cases hm:fs.toList.mapM (fun f=>(P.info? f.type).map fun i=>(f.offset,i.size))with
    | none=>grind
    | some pl=>
      simp only [hu,hzv,hm];have e1:p9 P t=fun i=>pl[i]? :=by grind [p9]
      simp_all
   ·cases hok
  grind
 grind
theorem Bh {P:Program} {t e:TypeId} {n by':Nat} (h:Cw P t=some (e,n,by')):
 ∃ i z,P.underlying t=some (.slice e)/\P.info? e=some i/\i.zero=some z/\i.size=n/\i.bytes=by'/\z.cells.size=n:=by
 unfold Cw at h;grind
theorem NY {P:Program} {F:Fr} {st:St} {a:Act} {w:World} {G:Ax} (h:R F st a w G) {T:TypeId} {x y:V} {u v:Value} (hx:Aa w G x u) (hy:Aa w G y v) (hs:(ER P st T x y).1):
 ∃ w',(Instr.storeAt T u v).run P w= .ok () w'/\R F (ER P st T x y).2 a w' G:=by
 unfold ER at *;split at hs
 ·rename_i id off cs ag n hc ht;split at hs
  ·rename_i e he;obtain⟨h1,h2⟩:=hs;obtain⟨d,i,hu,hd,hi,Tr⟩:=Bw ht;simp only [Aa,Ab]at hx;obtain⟨b,hb,rfl⟩:=hx;have hv:=GQ hy hc;have hlv:=hv.length;obtain⟨cur,T',abP,aeR,hR⟩:=h.stored he hb (off:=off) (xs:=cs) hv (by omega);refine⟨_,?_,hR⟩;have IN:=run_storeCells_at P b off T' v.cells.toList 0 cur w abP (by simpa using aeR) (Ae.one hv);simp only [add_zero]at IN;simp_all [Instr.storeAt,Instr.sureAddr,storeVar,sizeOf,typeInfo]
  grind
 grind
theorem cI {F:Fr} {st:St} {a:Act} {w:World} {G:Ax} (h:R F st a w G) {n m:Nat} {x:V} {cs:List C} {q:Bool} {u:Value} (hs:NX st n x=some (m,cs,q)) (hx:Aa w G x u):
 (q=true->Al cs=true)/\ ∃ ad cap vs,u= .slice ad m cap/\Ae w G cs vs/\vs.length=m*n/\(ad=none->m=0)/\ ∀ b,ad=some b-> ∀ j v,vs[j]? =some v->w.cell? (b.add j)=some v:=by
 unfold NX at hs;split at hs
 ·split at hs
  ·rename_i hl;simp only [injEq,Prod.mk.injEq]at hs;obtain⟨rfl,rfl,rfl⟩:=hs;simp only [Aa,Ab]at hx;refine⟨fun _=>hx.1,?_⟩;obtain⟨_,ad,cap,rfl,_,_,h0,h1 | ⟨b,o,rfl,_,_,hr⟩⟩:=hx
   ·have:=h0 h1;subst this;exact⟨ad,cap,[],rfl,by simp [Ae],by grind,fun _=>h1,(by grind)⟩
   ·obtain⟨vs,q1,q2⟩:=hr.list;have:=q1.length;exact⟨_,cap,vs,rfl,q1,by omega,(by simp),fun b' hb' j v hv=>by injection hb' with hb';subst hb';rw [Addr.add_mid];exact q2 j v hv⟩
  ·cases hs
 ·split at hs
  ·rename_i e hlk;split at hs
   ·rename_i E n' m' m_;split at hs
    ·rename_i hn;simp only [injEq,Prod.mk.injEq]at hs;obtain⟨rfl,rfl,rfl⟩:=hs;obtain⟨hm,hid⟩:=AZ hlk;refine⟨h.k_ e hm,?_⟩;have hE:=h.store e hm;obtain⟨v,vs,k1,k2,k3,k4⟩:=C8 m_ hE;simp only [Aa,Ab]at hx;rw [hid]at k1;rw [k1]at hx;obtain⟨hx,_⟩:=hx;injection hx with hx;subst hx;rcases k4 with ⟨k4,k5⟩ | ⟨p,rfl,q0,rfl,_⟩
     rotate_left
     ·grind
     rcases k4.2 with ⟨q,q0⟩ | ⟨g,cap,cur,q,_⟩
     ·have:vs=[]:=by have:=k4.1;simp_all
      grind
     ·refine⟨_,cap,vs,q,k3,by rw [k4.1,hn],(by simp),fun b hb j v hv=>?_⟩;injection hb with hb;subst hb;exact k4.cells (by rw [q];rfl) j v hv
    ·cases hs
   ·cases hs
  ·cases hs
 ·cases hs
theorem WP {P:Program} {F:Fr} {st:St} {a:Act} {w:World} {G:Ax} (h:R F st a w G) {d:Nat} {t ty:TypeId} {s x:V} {u v:Value} (hx:Aa w G s u) (hy:Aa w G x v) (hs:(Em P st d t s x).1):
 ∃ r w' G',(Builtin.append_ #[t,t] ty #[u,v]).run P w= .ok r w'/\R F (Em P st d t s x).2 (a.put (some d) r) w' G':=by
 unfold Em at *;split at hs
 ·rename_i id E n by' R_;split at hs
  ·rename_i e m cs q hlk afp;split at hs
   ·rename_i E' n' len m_;obtain⟨rfl,rfl,Ho,acV,ajn⟩:=hs;obtain⟨i,z,hu,hi,hz,Tr,hby,hzs⟩:=Bh R_;obtain⟨hm,hid⟩:=AZ hlk;obtain⟨u',xs,k1,k2,k3,k4⟩:=C8 m_ (h.store e hm);simp only [Aa,Ab]at hx;rw [hid]at k1;rw [k1]at hx;obtain⟨hx,_⟩:=hx;injection hx with hx;subst hx;obtain⟨hqp,ad,cap,us,rfl,q1,q2,q3,q4⟩:=cI h afp hy;rcases k4 with ⟨k4,k5⟩ | ⟨p,rfl,rfl,rfl,k5⟩
    rotate_left
    ·rw [hid]at k5;have hcs:e.cs=[]:=List.length_eq_zero_iff.1 (by simpa using k3.length);by_cases hm0:m=0
     ·subst hm0;have hus:us=[]:=by grind
      subst hus;have hc0:cs=[]:=List.length_eq_zero_iff.1 (by simpa using q1.length);subst hc0;have h_:(Builtin.append_ #[t,t] ty #[.slice (some p) 0 0, .slice ad 0 cap]).run P w= .ok (.slice (some p) 0 0) w:=by cases ad<;>simp [Builtin.append_,run_underlying hu,sizeOf,typeInfo,program,Sem.run,hi,Builtin.lenOf,Builtin.firstCells,storeCells,loadCells,loadCellsFrom]
      obtain⟨G',g1,g2⟩:=h.agm (id:=id) (e:=e) (E:=E') (n:=n') (p:=p) (e.pu&&q) hcs;refine⟨_,w,G',h_,?_⟩;exact R.put (d:=some d) g1 (show Aa w G' (V.c (C.l_ id)) (.slice (some p) 0 0) by simp only [Aa,Ab];grind)
     ·obtain⟨b,rfl⟩: ∃ b,ad=some b:=by cases ad<;>grind
      obtain⟨r,w',h_,z_,hg,hfr⟩:=DQ (P:=P) (w:=w) t ty E' i z n' by' hu hi hz Tr hby hzs Ho p b m cap us q2 (q4 b rfl) (by omega) (by omega) (by grind);obtain⟨G',g1,g2,g3⟩:=h.aeU (len:=0) (v:= .slice none 0 0) (xs:=[]) hlk hqp k5.symm k3 q1 ⟨by simp, .inl ⟨rfl,rfl⟩⟩ (by simpa using z_) hg (.inr hfr);refine⟨r,w',G',h_,?_⟩;grind [R.put,Aa,Ab]
    rw [hid]at k5;have main: ∀ r w',(Builtin.append_ #[t,t] ty #[u', .slice ad m cap]).run P w= .ok r w'->w'.ownsRow 0 E' n' r (len+m) (xs++us)->w.grownBy w' u'.ownBlock->(r.ownBlock=u'.ownBlock\/ ∀ b,r.ownBlock=some b->w.heap.size<=b)->
     ∃ r w' G',(Builtin.append_ #[t,t] ty #[u', .slice ad m cap]).run P w= .ok r w'/\R F ((st.new ⟨id,some (E',n',len+m),e.cs++cs,e.pu&&q⟩).put (some d) (.c (.l_ id))) (a.put (some d) r) w' G':=by
     intro r w' h_ z_ hg hfr;obtain⟨G',g1,g2,g3⟩:=h.aeU hlk hqp k5 k3 q1 k4 z_ hg hfr;exact⟨r,w',G',h_,g1.put (by grind [Aa,Ab])⟩
    cases ad with
    | some b=>
      obtain⟨r,w',h_,z_,hg,hfr⟩:=Cj (P:=P) (w:=w) t ty E' i z n' by' hu hi hz Tr hby hzs Ho u' len xs k4 b m cap us q2 (q4 b rfl) (Ae.one q1) ajn acV;grind
    | none=>
      have hm0:=q3 rfl;subst hm0;have hus:us=[]:=by grind
      subst hus;refine main u' w ?_ (by grind) ⟨rfl,rfl,rfl,le_refl _,fun _ _ _=>rfl⟩ (.inl rfl);have ao7: ∃ bs c,u'= .slice bs len c/\len<=c/\(∀ b,bs=some b->b.spot=none):=by
       rcases k4.2 with ⟨q,q0⟩ | ⟨g,c,cur,q,_,_,q5,_⟩
       all_goals grind
      obtain⟨bs,c,rfl,hc,_⟩:=ao7;cases bs<;>simp [Builtin.append_,run_underlying hu,sizeOf,typeInfo,program,Sem.run,hi,Builtin.lenOf,Builtin.firstCells,hc,storeCells]
   grind
  grind
 grind
theorem cJ {P:Program} {F:Fr} {st:St} {a:Act} {w:World} {G:Ax} (h:R F st a w G) {d:Nat} {t t' ty:TypeId} {x y:V} {u v:Value} (hx:Aa w G x u) (hy:Aa w G y v) (hs:(QW P st d t x y).1):
 ∃ r w' G',(Builtin.copy_ #[t,t'] ty #[u,v]).run P w= .ok r w'/\R F (QW P st d t x y).2 (a.put (some d) r) w' G':=by
 unfold QW at *;split at hs
 ·rename_i id off len id2 acz aag E R_;split at hs
  ·rename_i e e2 he he2;obtain⟨q1,q2⟩:=hs;obtain⟨hu,inf,hi,Tr⟩:=B4 R_;simp only [Aa,Ab]at hx hy;obtain⟨b,cap,o,hb,rfl,_,ho1,ho⟩:=hx;obtain⟨b2,ahc,o2,hb2,rfl,_,_,ho2⟩:=hy;obtain⟨hm2,aoK⟩:=AZ he2;obtain⟨ajM,T2,_,_,alB⟩:=(h.store e2 hm2).row (Sw he2) (by rw [aoK];exact hb2);obtain⟨vs,k1,k2⟩:=((alB.drop acz).take (Nat.min aag len)).list;have hlx:=k1.length;have hl:((e2.cs.drop acz).take (Nat.min aag len)).length =Nat.min aag len:=by grind
   obtain⟨cur,T',abP,aeR,hR⟩:=h.stored he hb (off:=off) k1 (by grind);have hw:w.setRow b (cur.toList.take o++vs++cur.toList.drop (o+vs.length)).toArray =w.setRow b (cur.toList.take off++vs++cur.toList.drop (off+vs.length)).toArray :=by
    by_cases hz:vs.length=0
    ·simp_all
    grind
   have h_:=run_copy_row (P:=P) w t t' ty E b o len cap ⟨b2,o2,none⟩ aag ahc cur T' vs hu (by grind) abP (by omega) (fun j v hv=>by have hj:j<vs.length:=(by grind);have e:o2=acz:=(by grind);subst e;have:=k2 j v hv;grind [Addr.add_mid]) (by omega) (Ae.one k1)
   rw [hw]at h_;refine⟨_,_,G,h_,hR.put (d:=some d) ?_⟩;grind [Aa,Ab,goInt]
  grind
 grind
theorem Zy {F:Fr} {w:World} {G:Ax} {id:Ad} {b:Option Nat} {v:Value} (h:v.oneCell'=true):Aa w (Bv F G id b (some v)) (.c (.l_ id)) v:=by simp [Aa,Ab,Bv,h]
theorem aaj {P:Program} {w:World} {t E:TypeId} {i:TypeInfo} {zv:Value} {n len:Nat} {ps:Array (Nat×Value)} {Q_:Array Value} (hu:P.underlying t=some (.slice E)) (hi:P.info? E=some i) (hz:i.zero=some zv)
 (Tr:i.size=n) (h3:0<n) (h4:len*n<=2 ^ 24) (hf:Instr.fill (fun i=>some (i*n,n)) ((Array.range (len*n)).map (zv.cells[· % zv.cells.size]!)) ps.toList=some Q_):
 (Instr.buildSlice t len ps).run P w= .ok (.slice (some ⟨w.heap.size,0,none⟩) len len) (w.alloc (.cells Q_ E)):=by
 have ajy: ¬2 ^ 24<len*n:=by omega
 by_cases h0:len=0
 ·simp_all [Array.range_zero',Instr.buildSlice,run_underlying,sizeOf,typeInfo,newRow]
 ·have h1: ¬len*n=0:=by rw [Nat.mul_eq_zero];omega
  have h2:n ≠ 0:=by omega
  simp [Instr.buildSlice,run_underlying hu,sizeOf,typeInfo,hi,Tr,ajy,zeroValue,hz,hf,newRow];grind
theorem QX {P:Program} {F:Fr} {st:St} {a:Act} {w:World} {G:Ax} (h:R F st a w G) {d:Nat} {t:TypeId} {l c:V} {u v:Value} (hx:Aa w G l u) (hy:Aa w G c v) (hs:(HQ P st d t l c).1):
 ∃ r w' G',(Instr.makeSlice t u v).run P w= .ok r w'/\R F (HQ P st d t l c).2 (a.put (some d) r) w' G':=by
 unfold HQ at *;split at hs
 ·rename_i k1 l k2 c E n by' R_;split at hs
  ·rename_i z hz;obtain⟨h0,h1,h2,h3,h4,h5⟩:=hs;obtain⟨i,zv,hu,hi,hzv,Tr,hby,hzs⟩:=Bh R_;obtain⟨i',zv',M_,Tq,hc⟩:=EQ hz;rw [hi]at M_;injection M_ with M_;subst M_;rw [hzv]at Tq;injection Tq with Tq;subst Tq;simp only [Aa,Ab]at hx hy;subst hx hy;have hM:maxLen=9223372036854775807:=rfl;have h_:=run_make (P:=P) w t E i zv hu hi hzv k1 k2 l c h0 h1 (by rw [hby,Int.mul_comm];omega) (by omega);have hzr:=IT (DW (w:=w) (G:=G) hc) (by omega) l.toNat
   rw [hzs]at hzr;have hle:l.toNat*n<=c.toNat*n:=Nat.mul_le_mul_right _ (by omega);have m_:=h.row (d::st.pre) E n l.toNat c.toNat (BB z l.toNat) (madeCells zv.cells (c.toNat*i.size)) _ hzr (by
    simp only [madeCells,Array.toList_map,Array.toList_range,List.length_map,List.length_range, <-List.map_take,hzs];grind) (by simp [BB,h4]) (by rw [size_madeCells,Tr]) (by omega) (by omega) true (fun _=>QU (QT hc) _)
   exact⟨_,_,_,h_,R.put (d:=some d) m_ (Zy rfl)⟩
  grind
 grind
theorem GU {P:Program} {F:Fr} {st:St} {a:Act} {w:World} {G:Ax} (h:R F st a w G) {t E:TypeId} {len n by':Nat} {ps:Array (Nat×Operand)} {z cs:List C} (R_:Cw P t=some (E,n,by')) (hz:MG P E=some z)
 (hf:GR (fun i=>some (i*n,n)) (BB z len) ((st.parts true ps.toList).2.map QV)=some cs) (h1:(st.parts true ps.toList).1) (h2:z.length=n) (h3:0<n) (h4:len*n<=2 ^ 24):
 ∃ Q_,(Instr.buildSlice t len (ps.map fun(i,x)=>(i,a.eval x))).run P w= .ok (.slice (some ⟨w.heap.size,0,none⟩) len len) (w.alloc (.cells Q_ E))/\Ae w G cs Q_.toList/\cs.length=len*n/\Q_.size=len*n/\len<=maxLen:=by
 obtain⟨i,zv,hu,hi,hzv,Tr,hby,hzs⟩:=Bh R_;obtain⟨i',zv',M_,Tq,hc⟩:=EQ hz;rw [hi]at M_;injection M_ with M_;subst M_;rw [hzv]at Tq;injection Tq with Tq;subst Tq;have hzr:=IT (DW (w:=w) (G:=G) hc) (by omega) len;obtain⟨Q_,q1,q2⟩:=GT hf (LX (h.parts rfl h1)) hzr;have q1':Instr.fill (fun i=>some (i*n,n)) ((Array.range (len*n)).map (zv.cells[· % zv.cells.size]!)) (ps.map fun(i,x)=>(i,a.eval x)).toList =some Q_:=by simp_all
 have hsize:Q_.size=len*n:=by
  have e1:=q2.length;have e2:cs.length=(BB z len).length :=by
   clear hzr q1 q1' q2 e1;have hz': ∀ (l:List (Nat×V)) (b out:List C),GR (fun i=>some (i*n,n)) b l=some out->out.length=b.length:=by
    intro l;induction l with
    | nil=>grind [GR]
    | cons p l ih=>
      grind [GR]
   grind
  grind [BB]
 have hcl:cs.length=len*n:=by have:=q2.length;grind
 have hM:maxLen=9223372036854775807:=rfl;have hlen:len<=maxLen:=by have:len*1<=len*n:=Nat.mul_le_mul_left _ h3;omega
 grind [aaj]
theorem HR {P:Program} {F:Fr} {st:St} {a:Act} {w:World} {G:Ax} (h:R F st a w G) {d:Nat} {t:TypeId} {len:Nat} {ps:Array (Nat×Operand)} (hs:(AS P st d t len ps.toList).1):
 ∃ r w' G',(Instr.buildSlice t len (ps.map fun(i,x)=>(i,a.eval x))).run P w= .ok r w'/\R F (AS P st d t len ps.toList).2 (a.put (some d) r) w' G':=by
 unfold AS at *;split at hs
 ·rename_i E n by' R_;split at hs
  ·rename_i z hz;split at hs
   ·rename_i cs hf;obtain⟨h1,h2,h3,h4⟩:=hs;obtain⟨Q_,q1,q2,hcl,hsize,hlen⟩:=GU h R_ hz hf h1 h2 h3 h4;exact⟨_,_,_,q1,R.put (d:=some d) (h.row (d::st.pre) E n len len cs Q_ Q_.toList q2 (by grind) hcl hsize (le_refl _) hlen (Al cs) id) (Zy rfl)⟩
   grind
  grind
 grind
theorem NZ {P:Program} {F:Fr} {st:St} {a:Act} {w:World} {G:Ax} (h:R F st a w G) {o:Oper} (hs:(ef P st o).1):Eff P F o a w (ef P st o).2:=by
 obtain⟨dst,op,ty,pos,aft,gd⟩:=o;cases op<;>cases dst<;>simp only [ef]at hs ⊢ <;>try (exact hs.elim)
 case store.none T x y=>
  obtain⟨w',h1,h2⟩:=NY h (h.arg rfl hs.1) (cG (cH (h.arg rfl hs.2.1))) hs.2.2;exact⟨.skip,w',G,by simp [execOp,h1], .inr ⟨rfl,h2⟩⟩
 case store.some T x y d=>
  obtain⟨w',h1,h2⟩:=NY h (h.arg rfl hs.1) (cG (cH (h.arg rfl hs.2.1))) hs.2.2;exact⟨.skip,w',G,by simp [execOp,h1], .inr ⟨rfl,(by grind [R.put,Aa])⟩⟩
 case alloc.some T d=>
  split at hs
  ·rename_i cs hz;obtain⟨i,z,hi,hzv,hc⟩:=M6 hz;have hb:=h.box (d::st.pre) T cs z.cells (HP hc) false (fun q=>by cases q);refine⟨.value (.pointer (some ⟨w.heap.size,0,none⟩)),_,_,?_, .inl ⟨_,rfl,R.put (d:=some d) hb (by simp [Aa,Ab,Bv])⟩⟩;simp_all [execOp,Instr.alloc,aap,newVar,newRow]
  grind
 case box.some T x d=>
  split at hs
  ·rename_i cs hc;have hv:=GQ (h.arg rfl hs.1) hc;have hb:=h.box (d::st.pre) T cs (a.eval x).cells hv false (fun q=>by cases q);refine⟨.value (.pointer (some ⟨w.heap.size,0,none⟩)),_,_,?_, .inl ⟨_,rfl,R.put (d:=some d) hb (by simp [Aa,Ab,Bv])⟩⟩;simp [execOp,Instr.box,newVar,newRow]
  grind
 case assign.some x d=>
  split at hs
  all_goals first
   | (rename_i q;cases q;done)
   | (rename_i q
      cases q
      split at hs
      ·rename_i E n hE;have hb:=h.afc (d::st.pre) E n;exact⟨.value (.slice none 0 0),w,_,by simp [execOp,Act.eval], .inl ⟨_,rfl,R.put (d:=some d) hb (Zy rfl)⟩⟩
      grind)
   | grind
 case buildSlice.some t len ps d=>
  obtain⟨r,w',G',q1,q2⟩:=HR (d:=d) h hs;exact⟨.value r,w',G',by simp [execOp,q1], .inl ⟨r,rfl,q2⟩⟩
 case makeSlice.some t l c d=>
  obtain⟨r,w',G',q1,q2⟩:=QX (d:=d) h (h.arg rfl hs.1) (h.arg rfl hs.2.1) hs.2.2;exact⟨.value r,w',G',by simp [execOp,q1], .inl ⟨r,rfl,q2⟩⟩
 case call.some c d=>
  split at hs
  ·rename_i s x t t' h1 h2 h3;obtain⟨q1,q2,q3,q4⟩:=hs;subst q3;have ea:c.args= #[s,x]:=by grind
   have et:c.argTypes= #[t,t]:=by grind
   obtain⟨r,w',G',k1,k2⟩:=WP (d:=d) (ty:=ty) h (h.arg rfl q1) (h.arg rfl q2) q4;exact⟨.value r,w',G',by simp_all [execOp,resolve,invoke,builtin], .inl ⟨r,rfl,k2⟩⟩
  ·rename_i s x t t' h1 h2 h3;obtain⟨q1,q2,_,q4⟩:=hs;have ea:c.args= #[s,x]:=by grind
   have et:c.argTypes= #[t,t']:=by grind
   obtain⟨r,w',G',k1,k2⟩:=cJ (d:=d) (t':=t') (ty:=ty) h (h.arg rfl q1) (h.arg rfl q2) q4;exact⟨.value r,w',G',by simp_all [execOp,resolve,invoke,builtin], .inl ⟨r,rfl,k2⟩⟩
  grind
end Go.PL
namespace Go.PL
open Go Go.RowKit
def ent (P:Program) (f:FuncId):Bool:=
 match P.funcs[f]? with
 | some fn=> !(fn.name== "runtime.NumGoroutine")&&fn.body.isSome
 | none=>false
structure Cm (P:Program) (I:World->Prop) (f:FuncId) (args:List V) (Q:V->Prop):Prop where
 ent:ent P f=true
 run: ∀ (w:World) (vs:Array Value) (av:Nat->Prop),I w->(∀ b,av b->b<w.heap.size)->Ao w (im av) args vs.toList->
  Calls P f vs w (fun e w'=> ∃ v r,e= .returned v/\Q r/\r.pure=true/\Aa w' (im av) r v/\Below w.heap.size w w')
theorem Tv {P:Program} {f:FuncId} (h:ent P f=true) (args:Array Value) (w:World):(callFunc f args).run P w= .ok (.enter f args) w:=by
 unfold ent at h;split at h
 ·rename_i fn hf;simp only [and_eq_true,not_eq_true']at h;have h2: ¬fn.body=none:=by grind
  simp_all [callFunc]
 ·cases h
mutual
def V.flat:V->Bool
 | .c x=>x.flat
 | .agg cs=>cs.all C.flat
 | .tup vs=>Ik vs
 | _=>false
def Ik:List V->Bool
 | []=>true
 | v::vs=>v.flat&&Ik vs
end
mutual
def cK:V->Value
 | .c x=>Fq x
 | .agg cs=> .agg (cs.map Fq).toArray
 | .tup vs=> .tuple (cL vs).toArray
 | _=>Go.undef
def cL:List V->List Value
 | []=>[]
 | v::vs=>cK v::cL vs
end
theorem PM {w:World} {G:Ax}: ∀ {cs:List C} {vs:List Value},cs.all C.flat=true->(Ae w G cs vs↔vs=cs.map Fq)
 | [],[],_=>by simp [Ae]
 | [],_::_,_=>by simp [Ae]
 | _::_,[],_=>by simp [Ae]
 | c::cs,v::vs,h=>by simp only [List.all_cons,and_eq_true]at h;simp only [Ae,map_cons,List.cons.injEq,AD h.1,PM h.2]
mutual
theorem D8 {w:World} {G:Ax}: ∀ {x:V} {v:Value},x.flat=true->(Aa w G x v↔v=cK x)
 | .c x,v,h=>by grind [Aa,cK,AD,V.flat]
 | .agg cs,v,h=>by
   simp only [Aa,cK];constructor
   ·rintro⟨arr,rfl,hr⟩;rw [PM (by simpa only [V.flat] using h)]at hr;rw [<-hr]
   grind [PM,V.flat]
 | .tup vs,v,h=>by
   simp only [Aa,cK];constructor
   ·rintro⟨arr,rfl,hr⟩;rw [Jr (by simpa only [V.flat] using h)]at hr;rw [<-hr]
   ·intro e;exact⟨_,e,by rw [Jr (by simpa only [V.flat] using h)]⟩
 | .g _ _,_,h=>by simp [V.flat]at h
 | .undef,_,h=>by simp [V.flat]at h
theorem Jr {w:World} {G:Ax}: ∀ {xs:List V} {vs:List Value},Ik xs=true->(Ao w G xs vs↔vs=cL xs)
 | [],vs,_=>by simp only [Ao,cL]
 | x::xs,vs,h=>by
   simp only [Ik,and_eq_true]at h;simp only [Ao,cL];constructor
   ·rintro⟨v,r,rfl,h1,h2⟩;rw [(D8 h.1).1 h1,(Jr h.2).1 h2]
   ·intro e;exact⟨_,_,e,(D8 h.1).2 rfl,(Jr h.2).2 rfl⟩
end
def HS (st:St):C->C
 | .l_ id=>match st.look id with
   | some e=>match e.row with
     | some (_,_,len)=>if e.pu then .sl len e.cs else .any
     | none=> .any
   | none=> .any
 | .P_ => .sl 0 []
 | c=>c
def Bc (st:St):V->V
 | .c x=> .c (HS st x)
 | .agg cs=> .agg (cs.map (HS st))
 | v=>v
def N0:C->List Ad
 | .l_ id=>[id]
 | _=>[]
def qc:V->List Ad
 | .c x=>N0 x
 | .agg cs=>cs.flatMap N0
 | _=>[]
theorem XD {F:Fr} {st:St} {a:Act} {w:World} {G:Ax} (h:R F st a w G) {av:Nat->Prop} (hav: ∀ b,b<w.heap.size->av b->G.wr b) {c:C} {v:Value} (hid: ∀ id∈N0 c,st.aaI id=true-> ∀ b,G.blk id=some b-> ¬av b)
 (hp:(HS st c).pure =true) (hr:Ab w G c v):Ab w (im av) (HS st c) v:=by
 cases c with
 | l_ id=>
   simp only [HS]at hp ⊢;split at hp
   ·rename_i e he;split at hp
    ·rename_i E n len m_;split
     rotate_left
     ·grind [Ab]
     rename_i hpu;have hpl:Al e.cs=true:=h.k_ e (AZ he).1 hpu;have hok:st.aaI id=true:=by grind [St.aaI]
     have hf:=(h.frz he m_ hpl).own v (by grind [Ab]);simp only [Ab]at hf ⊢;obtain⟨hpp,ad,cap,q1,q2,q3,q4,q5⟩:=hf;refine⟨hpp,ad,cap,q1,q2,q3,q4,?_⟩;rcases q5 with q5 | ⟨b,o,rfl,k1,k2,k3⟩
     ·grind
     ·by_cases hz:len=0
      ·grind
      refine .inr ⟨b,o,rfl,?_,k2,?_⟩
      ·have hb:G.blk id=some b:=by obtain⟨hm,at5⟩:=AZ he;have hE:=h.store e hm;grind [AN,Ab]
       exact hid id (by simp [N0]) hok b hb
      ·exact Ai.mono (G:=Bv F G id none none) (G':=im av) ⟨le_refl _,fun _ _ _=>rfl,fun b' hb' hw=>by
        have:=hav b' hb' hw;rw [h.wr]at this;simp only [Bv];rcases this with q | ⟨i,q⟩
        ·exact .inl q
        ·by_cases hi:i=id
         ·subst hi;exact absurd hw (hid i (by simp [N0]) hok b' q)
         grind,fun _ _ _ _=>BU.same rfl⟩ _ _ _ (fun i hi=>by have:Bm i e.cs=true:=hi;rw [AL i e.cs hpl]at this;cases this) (fun _=>rfl) k3
    grind [Ab]
   grind [Ab]
 | P_=>
   simp only [Ab]at hr;subst hr;simp only [HS,Ab];exact⟨rfl,none,0,rfl,le_refl _,zero_le _,fun _=>trivial, .inl trivial⟩
 | _=>
   first
    | exact Ab.mono (G:=G) (G':=im av) ⟨le_refl _,fun _ _ _=>rfl,fun b hb hw=>hav b hb hw,fun _ _ _ _=>BU.same rfl⟩ _ _ (fun i hi=>absurd (show (HS st _).g_ i=true from hi) (by rw [Fo i _ hp];simp)) hr
theorem XE {F:Fr} {st:St} {a:Act} {w:World} {G:Ax} (h:R F st a w G) {av:Nat->Prop} (hav: ∀ b,b<w.heap.size->av b->G.wr b): ∀ {cs:List C} {vs:List Value},(∀ id∈cs.flatMap N0,st.aaI id=true-> ∀ b,G.blk id=some b-> ¬av b)->
 Al (cs.map (HS st))=true->Ae w G cs vs->Ae w (im av) (cs.map (HS st)) vs
 | [],[],_,_,_=>by simp [Ae]
 | [],_::_,_,_,h=>by simp [Ae]at h
 | _::_,[],_,_,h=>by simp [Ae]at h
 | c::cs,v::vs,hid,hp,hr=>by simp only [Ae]at hr;simp only [map_cons,Al,and_eq_true]at hp;simp only [map_cons,Ae];exact⟨XD h hav (fun id hi=>hid id (by simp [hi])) hp.1 hr.1,XE h hav (fun id hi=>hid id (by simp only [flatMap_cons,List.mem_append];exact .inr hi)) hp.2 hr.2⟩
theorem XF {F:Fr} {st:St} {a:Act} {w:World} {G:Ax} (h:R F st a w G) {av:Nat->Prop} (hav: ∀ b,b<w.heap.size->av b->G.wr b) {x:V} {v:Value} (hid: ∀ id∈qc x,st.aaI id=true-> ∀ b,G.blk id=some b-> ¬av b)
 (hp:(Bc st x).pure =true) (hr:Aa w G x v):Aa w (im av) (Bc st x) v:=by
 cases x with
 | c x=>simp only [Bc,Aa]at hr ⊢;exact XD h hav hid (by grind [Bc,V.pure]) hr
 | agg cs=>
   simp only [Bc,Aa]at hr ⊢;obtain⟨arr,e,hr⟩:=hr;exact⟨arr,e,XE h hav hid (by grind [Bc,V.pure]) hr⟩
 | tup vs=>exact lr hav hp hr
 | g b v'=>exact lr hav hp hr
 | undef=>simp only [Bc,Aa]
def Cc (xs:List V):List Ad:=xs.flatMap qc
theorem ES {F:Fr} {st:St} {a:Act} {w:World} {G:Ax} (h:R F st a w G) {av:Nat->Prop} (hav: ∀ b,b<w.heap.size->av b->G.wr b): ∀ {xs:List V} {vs:List Value},(∀ id∈Cc xs,st.aaI id=true-> ∀ b,G.blk id=some b-> ¬av b)->
 BA (xs.map (Bc st))=true->Ao w G xs vs->Ao w (im av) (xs.map (Bc st)) vs
 | [],_,_,_,h=>by simpa [Ao] using h
 | x::xs,vs,hid,hp,hr=>by
   simp only [Ao]at hr;obtain⟨v,r,rfl,h1,h2⟩:=hr;simp only [map_cons,BA,and_eq_true]at hp;simp only [map_cons,Ao];exact⟨v,r,rfl,(by grind [XF,Cc]),
    ES h hav (fun id hi=>hid id (by simp only [Cc,flatMap_cons,List.mem_append];exact .inr hi)) hp.2 h2⟩
def St.after (st:St) (ids:List Ad) (d:Option Nat) (r:V):St:=
 if r.flat then st.put d r else match ids with
  | []=>st.put d r
  | id::_=>(st.freeze id).put d r
theorem Co {B:Nat} {w w':World} (h:Below B w w'):DD w w':=⟨h.os,h.tape,h.output⟩
theorem Cx {w w':World} (h:Below w.heap.size w w'):Ca w w':=⟨h.size,fun b hb=>h.block b hb⟩
theorem R.aei {F:Fr} {st:St} {a:Act} {w:World} {G:Ax} (h:R F st a w G) {b:Nat} (hb:G.wr b):b<w.heap.size:=by
 rw [h.wr]at hb;rcases hb with q | ⟨i,q⟩
 ·exact lt_of_lt_of_le (h.Tu b q) h.hsize
 ·exact h.lt i b q
theorem R.called {F:Fr} {st:St} {a:Act} {w:World} {G:Ax} (h:R F st a w G) {P:Program} {f:FuncId} {xs:List V} {us:Array Value} {Q:V->Prop} (hc:Cm P F.I f (xs.map (Bc st)) Q)
 (hp:BA (xs.map (Bc st))=true) (hx:Ao w G xs us.toList) (d:Option Nat) (hfl: ∀ r,Q r->(r.flat=true\/(Cc xs).length <=1/\ ∀ id∈Cc xs,st.aaI id=true)):
 Calls P f us w (fun e w'=> ∃ v r G',e= .returned v/\Q r/\R F (st.after (Cc xs) d r) (a.put d v) w' G'):=by
 have hI:F.I w:=h.inv w h.hsize h.ext;by_cases n_:Cc xs=[]
 ·have h1:=ES h (av:=fun b=>G.wr b) (fun _ _ q=>q) (by grind) hp hx;refine(hc.run w us (fun b=>G.wr b) hI (fun b hb=>h.aei hb) h1).mono fun e w' ⟨v,r,he,hq,hpr,hr,hb⟩=>?_;refine⟨v,r,G,he,hq,?_⟩;have h2:=(h.same (Co hb) (Cx hb)).put (d:=d) (TB (G:=G) (fun _ _ q=>q) hpr hr);grind [St.after]
 ·
  have hav: ∀ b,b<w.heap.size->(G.wr b/\ ∀ id∈Cc xs,G.blk id ≠ some b)->G.wr b:=fun _ _ q=>q.1;have h1:=ES h (av:=fun b=>G.wr b/\ ∀ id∈Cc xs,G.blk id ≠ some b) hav (fun id hi _ b hb hw=>hw.2 id hi hb) hp hx;refine(hc.run w us _ hI (fun b hb=>h.aei hb.1) h1).mono fun e w' ⟨v,r,he,hq,hpr,hr,hb⟩=>?_;by_cases hf:r.flat=true
  ·refine⟨v,r,G,he,hq,?_⟩;have h2:=(h.same (Co hb) (Cx hb)).put (d:=d) ((D8 (w:=w') (G:=G) hf).2 ((D8 hf).1 hr));simp_all [St.after]
  ·rcases hfl r hq with q | ⟨q1,q2⟩
   ·grind
   ·obtain⟨id,hid⟩: ∃ id,Cc xs=[id]:=by
     match hh:Cc xs,q1,n_ with
     | [],_,n_=>grind
     | [id],_,_=>grind
    obtain⟨G',g1,g2,g3⟩:=h.freeze id;refine⟨v,r,G',he,hq,?_⟩;have g4:=g1.same (Co hb) (Cx hb);have hr':Aa w' G' r v:=(by grind [TB]);unfold St.after;rw [if_neg hf,hid];exact g4.put hr'
end Go.PL
namespace Go.PL
open Go Go.RowKit
def ceq:C->C->Bool
 | .int _ a, .int _ b=>a==b
 | .bool a, .bool b=>a==b
 | .str a, .str b=>a==b
 | _,_=>false
def Bo:List C->List C->Bool
 | [],[]=>true
 | c::cs,d::ds=>ceq c d&&Bo cs ds
 | _,_=>false
theorem KN: ∀ {a b c d:List C},a.length=b.length->Bo (a++c) (b++d)=(Bo a b&&Bo c d)
 | [],[],c,d,_=>by simp [Bo]
 | x::a,y::b,c,d,h=>by simp only [cons_append,Bo,KN (a:=a) (b:=b) (by simpa using h),Bool.and_assoc]
 | [],_::_,_,_,h=>by simp at h
 | _::_,[],_,_,h=>by simp at h
def nD (P:Program) (R:TypeId->List C->Bool) (cs:List C):Nat->List Field->Bool
 | o,[]=>o==cs.length
 | o,f::fs=>f.name != "_" &&f.offset==o&&(match FW P f.type with
   | some (ag,n)=>(ag||n==1)&&Nat.ble (o+n) cs.length&&R f.type ((cs.drop o).take n)&&nD P R cs (o+n) fs
   | none=>false)
def R8 (P:Program):Nat->TypeId->List C->Bool
 | 0,_,_=>false
 | n+1,t,cs=>match P.underlying t with
   | some .bool =>match cs with
     | [.bool _]=>true
     | _=>false
   | some (.int k)=>match cs with
     | [.int k' _]=>k==k'
     | _=>false
   | some .string =>match cs with
     | [.str _]=>true
     | _=>false
   | some (.struct fs)=> !P.stoodInHeld t&&nD P (R8 P n) cs 0 fs.toList
   | some (.array m e)=>match FW P e with
     | some (ag,k)=>(ag||k==1)&&cs.length==m*k&&(List.range m).all fun i=>R8 P n e ((cs.drop (i*k)).take k)
     | none=>false
   | _=>false
def ik (P:Program) (t:TypeId):Bool:=match P.underlying t with
 | some d=>d.isRow
 | none=>false
def uY (ag:Bool) (cs:List C):V:=if ag then .agg cs else .c (cs.getD 0 .any)
theorem Sx {ag:Bool} {o n:Nat} {cs:List C} (h0:ag=true\/n=1) (hn:o+n<=cs.length):toV ag o n cs=uY ag ((cs.drop o).take n):=by unfold toV uY;grind
section
variable {P:Program} {w:World} {G:Ax}
def yS (P:Program) (w:World) (G:Ax) (d n:Nat) (t:TypeId):Prop:=
 ∀ (cs ds:List C) (x y:Value),R8 P n t cs=true->R8 P n t ds=true->Aa w G (uY (ik P t) cs) x->Aa w G (uY (ik P t) ds) y-> ∀ w',(Op.equalIn d t x y).run P w'= .ok (Bo cs ds) w'
theorem Sy {t:TypeId} {ag:Bool} {n:Nat} (h:FW P t=some (ag,n)):ik P t=ag:=by grind [Bw,ik]
theorem QY {d n:Nat} (ih: ∀ t,yS P w G d n t) {cs ds:List C} {xs ys:Array Value} (hx:Ae w G cs xs.toList) (hy:Ae w G ds ys.toList): ∀ (fs:List Field) (o:Nat),nD P (R8 P n) cs o fs=true->nD P (R8 P n) ds o fs=true->
 ∀ w',(Op.eqFields d xs ys fs).run P w'= .ok (Bo (cs.drop o) (ds.drop o)) w'
 | [],o,h1,h2,w'=>by
   simp only [nD,beq_iff_eq]at h1 h2;have e1:cs.drop o=[]:=by grind
   have e2:ds.drop o=[]:=by grind
   rw [e1,e2];simp [Op.eqFields,Bo]
 | f::fs,o,h1,h2,w'=>by
   simp only [nD,and_eq_true,bne_iff_ne,ne_eq,beq_iff_eq]at h1 h2;obtain⟨⟨hn,ho⟩,h1⟩:=h1;obtain⟨_,h2⟩:=h2;cases ht:FW P f.type with
   | none=>grind
   | some p=>
     obtain⟨ag,k⟩:=p;rw [ht]at h1 h2;simp only [and_eq_true,Bool.or_eq_true,beq_iff_eq,Nat.ble_eq]at h1 h2;obtain⟨⟨⟨h0,l1⟩,r1⟩,q1⟩:=h1;obtain⟨⟨⟨_,l2⟩,r2⟩,q2⟩:=h2;obtain⟨a,ra,pa⟩:=aaW ht hx l1 (by grind);obtain⟨b,rb,pb⟩:=aaW ht hy l2 (by grind);rw [Sx h0 l1, <-Sy ht]at ra;rw [Sx h0 l2, <-Sy ht]at rb;have he:=ih f.type _ _ a b r1 r2 ra rb w';have ad_:=QY ih hx hy fs (o+k) q1 q2 w';have ae7:cs.drop o=(cs.drop o).take k++cs.drop (o+k):=by rw [<-drop_drop,take_append_drop]
     have ae6:ds.drop o=(ds.drop o).take k++ds.drop (o+k):=by rw [<-drop_drop,take_append_drop]
     rw [ae7,ae6,KN (by simp;omega)];simp only [Op.eqFields,hn,ne_eq,not_false_eq_true,if_true,Sem.run_bind,ho,pa,pb,he,Result.andThen_ok];cases Bo ((cs.drop o).take k) ((ds.drop o).take k)
     ·simp
     grind
theorem TH {d n:Nat} {e:TypeId} (ih:yS P w G d n e) {cs ds:List C} {xs ys:Array Value} {ag:Bool} {k:Nat} (ht:FW P e=some (ag,k)) (h0:ag=true\/k=1) (hx:Ae w G cs xs.toList) (hy:Ae w G ds ys.toList): ∀ (m o:Nat),cs.length=(o+m)*k->ds.length=(o+m)*k->
 (∀ i,i<o+m->R8 P n e ((cs.drop (i*k)).take k)=true)->(∀ i,i<o+m->R8 P n e ((ds.drop (i*k)).take k)=true)->
 ∀ w',(Op.eqItems d e k xs ys ((List.range m).map (o+ ·))).run P w'= .ok (Bo (cs.drop (o*k)) (ds.drop (o*k))) w'
 | 0,o,l1,l2,_,_,w'=>by
   have e1:cs.drop (o*k)=[]:=by grind
   have e2:ds.drop (o*k)=[]:=by grind
   rw [e1,e2];simp [Op.eqItems,Bo]
 | m+1,o,l1,l2,a1,a2,w'=>by
   have hk:(o+(m+1))*k=o*k+k+m*k:=by grind
   have b1:o*k+k<=cs.length:=by grind
   have b2:o*k+k<=ds.length:=by grind
   obtain⟨a,ra,pa⟩:=aaW ht hx b1 (h0.imp id (fun h=>by omega));obtain⟨b,rb,pb⟩:=aaW ht hy b2 (h0.imp id (fun h=>by omega));rw [Sx h0 b1, <-Sy ht]at ra;rw [Sx h0 b2, <-Sy ht]at rb;have he:=ih _ _ a b (a1 o (by omega)) (a2 o (by omega)) ra rb w';have ad_:=TH ih ht h0 hx hy m (o+1) (by grind) (by grind) (by grind) (by grind) w';have hl:(List.range (m+1)).map (o+ ·)=o::(List.range m).map (o+1+ ·):=by rw [List.range_succ_eq_map,map_cons,map_map];simp only [add_zero,List.cons.injEq,true_and];apply List.map_congr_left;grind
   have e1:(o+1)*k=o*k+k:=by grind
   rw [e1]at ad_;have ae7:cs.drop (o*k)=(cs.drop (o*k)).take k++cs.drop (o*k+k):=by rw [<-drop_drop,take_append_drop]
   have ae6:ds.drop (o*k)=(ds.drop (o*k)).take k++ds.drop (o*k+k):=by rw [<-drop_drop,take_append_drop]
   rw [ae7,ae6,KN (by simp;omega),hl];simp only [Op.eqItems,Sem.run_bind,pa,pb,he,Result.andThen_ok];cases Bo ((cs.drop (o*k)).take k) ((ds.drop (o*k)).take k)
   ·simp
   grind
theorem Zz: ∀ (n d:Nat) (t:TypeId),yS P w G (d+n) n t
 | 0,_,_,_,_,_,_,h,_,_,_,_=>by simp [R8]at h
 | n+1,d,t,cs,ds,x,y,h1,h2,hx,hy,w'=>by
   unfold R8 at h1 h2;cases hu:P.underlying t with
   | none=>grind
   | some kd=>
     rw [hu]at h1 h2;have hr:ik P t=kd.isRow:=by unfold ik;rw [hu]
     rw [hr]at hx hy;cases kd<;>simp only at h1 h2<;>try (cases h1;done)
     case bool=>
      split at h1<;>try (cases h1;done)
      split at h2<;>try (cases h2;done)
      simp only [uY,Aa,Ab,getD_cons_zero,TypeDesc.isRow,false_eq_true,if_false]at hx hy;subst hx hy;rw [show d+(n+1)=(d+n)+1 from rfl,run_equalIn_bool' w' (d+n) t _ _ hu];simp [Bo,ceq]
     case int k=>
      split at h1<;>try (cases h1;done)
      split at h2<;>try (cases h2;done)
      simp only [beq_iff_eq]at h1 h2;subst h1;simp only [uY,Aa,Ab,getD_cons_zero,TypeDesc.isRow,false_eq_true,if_false]at hx hy;subst hx hy h2;rw [show d+(n+1)=(d+n)+1 from rfl,run_equalIn_int w' (d+n) t _ _ _ _ hu];simp [Bo,ceq]
     case string=>
      split at h1<;>try (cases h1;done)
      split at h2<;>try (cases h2;done)
      simp only [uY,Aa,Ab,getD_cons_zero,TypeDesc.isRow,false_eq_true,if_false]at hx hy;subst hx hy;rw [show d+(n+1)=(d+n)+1 from rfl,run_equalIn_string w' (d+n) t _ _ hu];simp [Bo,ceq,ByteArray.toList_eq]
     case struct fs=>
      simp only [and_eq_true,not_eq_true']at h1 h2;simp only [uY,TypeDesc.isRow,if_true,Aa]at hx hy;obtain⟨xs,rfl,hx⟩:=hx;obtain⟨ys,rfl,hy⟩:=hy;have hfs:P.fieldsOf t=fs:=by simp [Program.fieldsOf,hu]
      rw [show d+(n+1)=(d+n)+1 from rfl,run_equalIn_struct w' (d+n) t xs ys (by rw [hfs];exact hu) h1.1,hfs];have:=QY (fun t=>Zz n d t) hx hy fs.toList 0 h1.2 h2.2 w';grind
     case array m e=>
      cases ht:FW P e with
      | none=>grind
      | some p=>
        obtain⟨ag,k⟩:=p;rw [ht]at h1 h2;simp only [and_eq_true,Bool.or_eq_true,beq_iff_eq,List.all_eq_true,List.mem_range]at h1 h2;simp only [uY,TypeDesc.isRow,if_true,Aa]at hx hy;obtain⟨xs,rfl,hx⟩:=hx;obtain⟨ys,rfl,hy⟩:=hy;obtain⟨dd,i,_,_,hi,Tr⟩:=Bw ht;have hc:P.cellsOf e=k:=by grind [Program.cellsOf]
        rw [show d+(n+1)=(d+n)+1 from rfl,run_equalIn_array w' (d+n) xs ys hu hi];have:=TH (Zz n d e) ht h1.1.1 hx hy m 0 (by grind) (by grind) (by grind) (by grind) w';simp_all
def cM (P:Program) (t:TypeId) (cs ds:List C):Bool:= !P.eqGuardType P.depth t&&ik P t&&R8 P 40 t cs&&R8 P 40 t ds
def WQ (P:Program) (op:BinOp) (t:TypeId) (cs ds:List C):Prop×V:=
 match op with
 | .eql =>(cM P t cs ds=true, .c (.bool (Bo cs ds)))
 | .neq =>(cM P t cs ds=true, .c (.bool !(Bo cs ds)))
 | _=>no
theorem M7 {op:BinOp} {t:TypeId} {cs ds:List C} {u v:Value} {ox oy:Operand} (hx:Aa w G (.agg cs) u) (hy:Aa w G (.agg ds) v) (hs:(WQ P op t cs ds).1):
 ∃ r,Aa w G (WQ P op t cs ds).2 r/\ ∀ w',(do eqGuard op t ox oy u v;binOp op t u v).run P w'= .ok r w':=by
 have key:cM P t cs ds=true-> ∃ xs ys,u= .agg xs/\v= .agg ys/\(∀ w',(eqGuard op t ox oy u v).run P w'= .ok () w')/\ ∀ w',(Op.equalIn 10000 t u v).run P w'= .ok (Bo cs ds) w':=by intro h;simp only [cM,and_eq_true,not_eq_true']at h;have hx':=hx;have hy':=hy;simp only [Aa]at hx' hy';obtain⟨xs,rfl,_⟩:=hx';obtain⟨ys,rfl,_⟩:=hy';refine⟨xs,ys,rfl,rfl,(by grind [run_eqGuard_agg]),fun w'=>?_⟩;exact Zz (P:=P) (w:=w) (G:=G) 40 9960 t cs ds _ _ h.1.2 h.2 (by rw [h.1.1.2];exact hx) (by rw [h.1.1.2];exact hy) w'
 unfold WQ at *;split at hs
 ·obtain⟨xs,ys,rfl,rfl,h1,h2⟩:=key hs;exact⟨_,(AD rfl).2 rfl,fun w'=>by simp only [Sem.run_bind,h1,Result.andThen_ok,run_eql_struct,h2];rfl⟩
 ·obtain⟨xs,ys,rfl,rfl,h1,h2⟩:=key hs;exact⟨_,(AD rfl).2 rfl,fun w'=>by simp only [Sem.run_bind,h1,Result.andThen_ok,run_neq_struct,h2];rfl⟩
 grind
end
def nE:List C->Bool
 | []=>true
 | .int _ _::cs=>nE cs
 | .bool _::cs=>nE cs
 | .str _::cs=>nE cs
 | _::_=>false
theorem XG: ∀ {cs:List C},nE cs=true->Bo cs cs=true
 | [],_=>rfl
 | c::cs,h=>by cases c<;>simp only [nE]at h<;>first | (cases h;done) | simp_all [Bo,ceq,XG]
def kinds:List C->List (Option IntKind)
 | []=>[]
 | .int k _::cs=>some k::kinds cs
 | _::cs=>none::kinds cs
theorem Sz: ∀ {cs ds:List C},kinds cs=kinds ds->Bo cs ds=true->cs=ds
 | [],[],_,_=>rfl
 | [],_::_,_,h=>by simp [Bo]at h
 | _::_,[],_,h=>by simp [Bo]at h
 | c::cs,d::ds,hk,h=>by
   simp only [Bo,and_eq_true]at h;cases c<;>cases d<;>simp only [ceq,false_eq_true,false_and]at h
   ·simp only [kinds,List.cons.injEq,injEq]at hk;rw [beq_iff_eq.1 h.1,hk.1,Sz hk.2 h.2]
   ·simp only [kinds,List.cons.injEq,true_and]at hk;rw [beq_iff_eq.1 h.1,Sz hk h.2]
   ·simp only [kinds,List.cons.injEq,true_and]at hk;rw [beq_iff_eq.1 h.1,Sz hk h.2]
theorem CN {α:Type} [DecidableEq α] (enc:α->List C) (pY:List C->α) (hd: ∀ a,pY (enc a)=a) (hs: ∀ a,nE (enc a)=true) (hk: ∀ a b,kinds (enc a)=kinds (enc b)) (a b:α):Bo (enc a) (enc b)=(a==b):=by grind [XG,Sz]
def As:C->Int
 | .int _ n=>n
 | _=>0
def ZA:C->Bool
 | .bool b=>b
 | _=>false
def cN:C->List UInt8
 | .str s=>s
 | _=>[]
structure B0 (st an:St):Prop where
 len:an.tm.length=st.tm.length
 tm: ∀ i,an.tm.getD i .undef = .undef \/an.tm.getD i .undef =st.tm.getD i .undef
 so: ∀ e∈an.so,e∈st.so
 nd:(st.so.map (·.id)).Nodup ->(an.so.map (·.id)).Nodup
 gh:an.gh.length=st.gh.length/\ ∀ i,an.gh.getD i .undef = .undef \/an.gh.getD i .undef =st.gh.getD i .undef
 pre:an.pre=st.pre
theorem B0.refl (st:St):B0 st st:=⟨rfl,fun _=> .inr rfl,fun _ h=>h,id,(by grind),rfl⟩
theorem TI {w:World} {G:Ax}: ∀ {xs ys:List V} {vs:List Value},ys.length=xs.length->(∀ i,ys.getD i .undef = .undef \/ys.getD i .undef =xs.getD i .undef)->Ao w G xs vs->Ao w G ys vs
 | [],[],_,_,_,h=>h
 | x::xs,y::ys,vs,hl,hi,h=>by
   simp only [Ao]at h ⊢;obtain⟨v,r,e,h1,h2⟩:=h;refine⟨v,r,e,?_,TI (by simpa using hl) (fun i=>by simpa using hi (i+1)) h2⟩;rcases hi 0 with q | q
   ·simp at q;rw [q];simp only [Aa]
   ·simp at q;rw [q];exact h1
 | [],_::_,_,hl,_,_=>by simp at hl
 | _::_,[],_,hl,_,_=>by simp at hl
theorem R.less {F:Fr} {st:St} {a:Act} {w:World} {G:Ax} {an:St} (h:R F st a w G) (hl:B0 st an):R F an a w G:={
 dfr:=h.dfr
 size:=by rw [hl.len];exact h.size
 slots:=fun i=>by
  rcases hl.tm i with q | q
  ·rw [q];simp only [Aa]
  ·rw [q];exact h.slots i
 t_:=TI hl.gh.1 hl.gh.2 h.t_
 store:=fun e he=>h.store e (hl.so e he)
 deep:=fun e he=>h.deep e (hl.so e he)
 k_:=fun e he=>h.k_ e (hl.so e he)
 nodup:=hl.nd h.nodup
 inj:=h.inj,lt:=h.lt,new:=h.new,wr:=h.wr,Tu:=h.Tu,inv:=h.inv,Kq:=h.Kq,os:=h.os,tape:=h.tape,output:=h.output,hsize:=h.hsize,ext:=h.ext}
end Go.PL
namespace Go.PL
open Go Go.RowKit
def ZB:List V->Option (List C)
 | []=>some []
 | .c x::vs=>match ZB vs with
   | some cs=>some (x::cs)
   | none=>none
 | _=>none
def CT (P:Program) (st:St) (g:Bool) (op:Op):Prop×V:=
 match op with
 | .build t ps=>KM P st g t ps.toList
 | .binOp op t x y t'=>match (st.arg g x).2,(st.arg g y).2 with
   | .agg cs, .agg ds=>((st.arg g x).1/\(st.arg g y).1/\(WQ P op t cs ds).1,(WQ P op t cs ds).2)
   | _,_=>rd P st g (.binOp op t x y t')
 | .makeFunc (.func f) ⟨[]⟩ ad0=>match ZB (st.args g ad0.toList).2 with
   | some cs=>((st.args g ad0.toList).1, .c (.clo f cs))
   | none=>no
 | .makeFunc (.func f) ⟨x::xs⟩ ⟨[]⟩=>match ZB (st.args g (x::xs)).2 with
   | some cs=>((st.args g (x::xs)).1, .c (.bmv f cs))
   | none=>no
 | op=>rd P st g op
theorem TJ {w:World} {G:Ax}: ∀ {vs:List V} {cs:List C} {us:List Value},ZB vs=some cs->Ao w G vs us->Ae w G cs us
 | [],cs,us,h,hr=>by grind [ZB,Ao,Ae]
 | v::vs,cs,us,h,hr=>by
   unfold ZB at h;split at h
   ·grind
   ·rename_i x vs' he;injection he with h1 h2;subst h1 h2;split at h
    ·rename_i Tk hcs;injection h with h;subst h;simp only [Ao,Aa]at hr;obtain⟨u,r,rfl,h1,h2⟩:=hr;simp only [Ae];exact⟨h1,TJ hcs h2⟩
    ·cases h
   ·cases h
theorem D9 {P:Program} {F:Fr} {st:St} {a:Act} {w:World} {G:Ax} (h:R F st a w G) {g:Bool} (hg:g=true) {o:Oper} (hs:(CT P st g o.op).1):
 ∃ v,Aa w G (CT P st g o.op).2 v/\ ∀ w',Ca w w'->(execOp a.eval o).run P w'= .ok (.value v) w':=by
 unfold CT at *;split at hs
 ·rename_i t ps ho;obtain⟨v,q1,q2⟩:=Zx h hg hs;exact⟨v,q1,(by simp_all [execOp])⟩
 ·rename_i op t x y t' ho;split at hs
  ·rename_i cs ds e1 e2;have hx:=h.arg hg hs.1;have hy:=h.arg hg hs.2.1;rw [e1]at hx;rw [e2]at hy;obtain⟨v,q1,q2⟩:=M7 (P:=P) (op:=op) (t:=t) (ox:=x) (oy:=y) hx hy hs.2.2;refine⟨v,q1,fun w' hw'=>?_⟩;have:=q2 w';simp only [execOp,ho,Sem.run_bind]at this ⊢;simp_all
  grind [cz]
 ·rename_i f ad0 ho;split at hs
  ·rename_i cs hcs;have:=TJ hcs (h.args hg hs);refine⟨.func (.func f) #[] (ad0.map a.eval),⟨_,rfl,by simpa using this⟩,(by simp_all [execOp,Instr.makeFunc])⟩
  grind
 ·rename_i f x xs ho;split at hs
  ·rename_i cs hcs;have:=TJ hcs (h.args hg hs);refine⟨.func (.func f) ((x::xs).map a.eval).toArray #[],⟨_,rfl,by simpa using this⟩,(by simp_all [execOp,Instr.makeFunc])⟩
  grind
 ·exact cz h hg hs
inductive Kind where
 | rd | ef | call (f:FuncId) (xs:List Operand) | cut (x:Operand) | no
def BC:Op->Kind
 | .alloc _ | .box _ _ | .buildSlice .. | .makeSlice .. | .store .. => .ef
 | .assign (.const (.slice none 0 0))=> .ef
 | .slice _ x _ _ _=> .cut x
 | .call c=>match c.callee with
   | .builtin .append => .ef
   | .builtin .copy => .ef
   | .builtin _=> .rd
   | .value (.func f)=> .call f c.args.toList
   | _=> .no
 | _=> .rd
def St.cutAt (st:St) (g:Bool) (x:Operand):St:=
 match (st.arg g x).2 with
 | .c (.l_ id)=>st.freeze id
 | _=>st
abbrev hH (F:Fr) (K:St->Prop) (a:Act) (w:World):Prop:= ∃ an G',K an/\R F an a w G'
def El (P:Program) (I:World->Prop) (o:Oper) (st:St) (K:St->Prop):Prop:=
 ∀ (F:Fr) (a:Act) (w:World) (G:Ax) (Q:Exit->Act->World->Prop),F.I=I->R F st a w G->o.wp P a w (hH F K) Q
def nF (P:Program) (I:World->Prop) (o:Oper) (st:St) (K:St->Prop):Prop:=
 El P I o st K\/match BC o.op with
 | .rd =>(CT P st true o.op).1/\K (st.put o.dst (CT P st true o.op).2)
 | .ef =>(ef P st o).1/\K (ef P st o).2
 | .call f xs=>(st.args true xs).1/\BA ((st.args true xs).2.map (Bc st))=true/\
  ∃ Q,Cm P I f ((st.args true xs).2.map (Bc st)) Q/\ ∀ r,Q r->(r.flat=true\/(Cc (st.args true xs).2).length <=1/\ ∀ id∈Cc (st.args true xs).2,st.aaI id=true)/\K (st.after (Cc (st.args true xs).2) o.dst r)
 | .cut x=>(CT P (st.cutAt true x) true o.op).1/\K ((st.cutAt true x).put o.dst (CT P (st.cutAt true x) true o.op).2)
 | .no =>False
def F5 (st:St) (ops:Array Oper) (j:Nat) (want:Bool):Option Bool:=
 match ops[j]? with
 | some p=>match p.dst with
   | some t=>match st.get t with
     | .c (.bool b)=>some (b==want)
     | .g c (.c (.bool b))=>some (c&&(b==want))
     | _=>none
   | none=>none
 | none=>none
def yT (P:Program) (I:World->Prop) (o:Oper) (st:St) (g:Bool) (K:St->Prop):Prop:=
 ((g=true->nF P I o st K)/\(g=false-> ∃ x an,B0 (st.put o.dst (.g g x)) an/\K an))\/match BC o.op with
 | .rd => ∃ v,(g=true->(CT P st g o.op).1/\(CT P st g o.op).2=v)/\K (st.put o.dst (.g g v))
 | .call f xs=>(g=true->(st.args g xs).1/\BA ((st.args g xs).2.map (Bc st))=true)/\
  ∃ r,(r.flat=true\/Cc (st.args g xs).2=[])/\(g=true->Cm P I f ((st.args g xs).2.map (Bc st)) (· =r))/\K (st.put o.dst (.g g r))
 | _=>False
def ZC (P:Program) (I:World->Prop) (ops:Array Oper) (o:Oper) (st:St) (K:St->Prop):Prop:=
 match o.guard with
 | none=>nF P I o st K
 | some (j,want)=>match F5 st ops j want with
   | some g=>yT P I o st g K
   | none=>False
def MH (P:Program) (I:World->Prop) (ops:Array Oper):List Oper->St->(St->Prop)->Prop
 | [],st,K=>K st
 | o::rest,st,K=>ZC P I ops o st (fun an=>MH P I ops rest an K)
def yU (P:Program) (I:World->Prop) (o:Oper) (st:St) (K:St->Prop):Prop:=
 match BC o.op with
 | .rd =>(CT P st true o.op).1/\K (st.put o.dst (CT P st true o.op).2)
 | .cut _=>(CT P st true o.op).1/\K (st.put o.dst (CT P st true o.op).2)
 | .call f xs=>(st.args true xs).1/\BA ((st.args true xs).2.map (Bc st))=true/\
  ∃ r,r.flat=true/\Cm P I f ((st.args true xs).2.map (Bc st)) (· =r)/\K (st.put o.dst r)
 | _=>False
def yV (P:Program) (I:World->Prop) (o:Oper) (st:St) (g:Bool) (K:St->Prop):Prop:=
 match BC o.op with
 | .rd => ∃ v,(g=true->(CT P st g o.op).1/\(CT P st g o.op).2=v)/\K (st.put o.dst (.g g v))
 | .cut _=> ∃ v,(g=true->(CT P st g o.op).1/\(CT P st g o.op).2=v)/\K (st.put o.dst (.g g v))
 | .call f xs=>(g=true->(st.args g xs).1/\BA ((st.args g xs).2.map (Bc st))=true)/\
  ∃ r,r.flat=true/\(g=true->Cm P I f ((st.args g xs).2.map (Bc st)) (· =r))/\K (st.put o.dst (.g g r))
 | _=>False
def yW (P:Program) (I:World->Prop) (ops:Array Oper) (o:Oper) (st:St) (K:St->Prop):Prop:=
 match o.guard with
 | none=>yU P I o st K
 | some (j,want)=>match F5 st ops j want with
   | some g=>yV P I o st g K
   | none=>False
def XH (P:Program) (I:World->Prop) (ops:Array Oper):List Oper->St->(St->Prop)->Prop
 | [],st,K=>K st
 | o::rest,st,K=>yW P I ops o st (fun an=>XH P I ops rest an K)
section
variable {P:Program} {F:Fr} {st:St} {a:Act} {w:World} {G:Ax} {ops:Array Oper}
theorem C9 {o:Oper} (h:o.guard=none) (y:Nat->Option Bool):Region.wanted o y=true:=by simp [Region.wanted,h]
theorem GV (h:R F st a w G) {o:Oper} {j:Nat} {want g:Bool} (hg:o.guard=some (j,want)) (hq:F5 st ops j want=some g):Region.wanted o (yielded ops a.tmps)=g:=by
 unfold F5 at hq;split at hq
 ·rename_i p hp;split at hq
  ·rename_i t ht;have hs:=h.slots t;have hv: ∀ v:Value,v ≠ Go.undef->a.tmps.getD t Go.undef=v->a.tmps[t]? =some v:=by intro v n_ he;rw [Array.getD_eq_getD_getElem?]at he;grind
   split at hq
   ·rename_i b hb;injection hq with hq;subst hq;have:st.tm.getD t .undef = .c (.bool b):=hb;grind [Aa,Ab,Go.undef,Region.wanted,yielded]
   ·rename_i c b hb;injection hq with hq;subst hq;have:st.tm.getD t .undef = .g c (.c (.bool b)):=hb;rw [this]at hs;simp only [Aa,Ab]at hs;cases c with
    | true=>
      rw [if_pos rfl]at hs;grind [Go.undef,Region.wanted,yielded]
    | false=>
      simp only [false_eq_true,if_false]at hs;have hn: ∀ x,a.tmps[t]? =some (.bool x)->False:=by intro x hx;simp_all [Go.undef]
      grind [yielded,Region.wanted]
   ·cases hq
  ·cases hq
 ·cases hq
theorem R.cutAt (h:R F st a w G) (g:Bool) (x:Operand): ∃ G',R F (st.cutAt g x) a w G':=by
 unfold St.cutAt;split
 ·obtain⟨G',q,_⟩:=h.freeze _;exact⟨G',q⟩
 grind
theorem Au {o:Oper} {v:Value} {w':World} {K:Act->World->Prop} {Q:Exit->Act->World->Prop} (hr:(execOp a.eval o).run P w= .ok (.value v) w') (h:K (a.put o.dst v) w'):o.wp P a w K Q:=by grind [Oper.wp,Oper.upon]
theorem LY (h:R F st a w G) {o:Oper} {K:St->Prop} {Q:Exit->Act->World->Prop} (hs:nF P F.I o st K):o.wp P a w (hH F K) Q:=by
 unfold nF at hs;rcases hs with hs | hs
 ·exact hs F a w G Q rfl h
 split at hs
 ·obtain⟨v,q1,q2⟩:=D9 h rfl hs.1;exact Au (q2 w (Ca.refl w)) ⟨_,G,hs.2,h.put q1⟩
 ·obtain⟨nx,w',G',q1,q2⟩:=(NZ h hs.1).out;unfold Oper.wp Oper.upon;grind
 ·rename_i f xs hk;obtain⟨h1,h2,Q',hc,hq⟩:=hs;have hr:(execOp a.eval o).run P w= .ok (.enter f (xs.map a.eval).toArray) w:=by
   unfold BC at hk;split at hk<;>try (cases hk;done)
   rename_i c ho;split at hk<;>try (cases hk;done)
   rename_i f' aaD;injection hk with hk1 hk2;subst hk1 hk2;simp [execOp,ho,resolve,aaD,Act.eval,Deferred.ofValue,invoke,Tv hc.ent];grind
  unfold Oper.wp Oper.upon;rw [hr];refine(h.called (us:=(xs.map a.eval).toArray) hc h2 (by simpa using h.args rfl h1) o.dst (by grind)).mono fun e w' ⟨v,r,G',he,q,hR⟩=>?_;subst he;exact⟨_,G',(hq r q).2,hR⟩
 ·rename_i x hk;obtain⟨G',hR⟩:=h.cutAt true x;obtain⟨v,q1,q2⟩:=D9 hR rfl hs.1;exact Au (q2 w (Ca.refl w)) ⟨_,G',hs.2,hR.put q1⟩
 grind
theorem cO (h:R F st a w G) {d:Option Nat} {g:Bool} {x:V} {v:Value} (hg:g=true) (hx:Aa w G x v):R F (st.put d (.g g x)) (a.put d v) w G:=
 h.put (by simp_all [Aa])
theorem ZD (h:R F st a w G) {d:Option Nat} {g:Bool} {x:V} (hg:g=false):R F (st.put d (.g g x)) (a.put d Go.undef) w G:=
 h.put (by simp [Aa,hg])
theorem N1 {o:Oper} {f:FuncId} {xs:List Operand} (hk:BC o.op= .call f xs) (he:ent P f=true) (w:World):(execOp a.eval o).run P w= .ok (.enter f (xs.map a.eval).toArray) w:=by
 unfold BC at hk;split at hk<;>try (cases hk;done)
 rename_i c ho;split at hk<;>try (cases hk;done)
 rename_i f' aaD;injection hk with hk1 hk2;subst hk1 hk2;simp [execOp,ho,resolve,aaD,Act.eval,Deferred.ofValue,invoke,Tv he];grind
theorem TK (h:R F st a w G) {f:FuncId} {g:Bool} (hg:g=true) {xs:List Operand} (h1:(st.args g xs).1) (h2:BA ((st.args g xs).2.map (Bc st))=true) {r:V} (hr:r.flat=true)
 (hc:Cm P F.I f ((st.args g xs).2.map (Bc st)) (· =r)) {w':World} (ho:DD w w') (hs:Ca w w'):
 Calls P f (xs.map a.eval).toArray w' (fun e w''=>e= .returned (cK r)/\Below w'.heap.size w' w''):=by
 have hR:=h.same ho hs;have hav: ∀ b,b<w'.heap.size->(G.wr b/\ ∀ id∈Cc (st.args g xs).2,G.blk id ≠ some b)->G.wr b:=fun _ _ q=>q.1;have h3:=ES hR (av:=fun b=>G.wr b/\ ∀ id∈Cc (st.args g xs).2,G.blk id ≠ some b) hav (by grind) h2 (by simpa using hR.args hg h1);refine(hc.run w' _ (fun b=>G.wr b/\ ∀ id∈Cc (st.args g xs).2,G.blk id ≠ some b) (hR.inv w' hR.hsize hR.ext) (fun b hb=>hR.aei hb.1) (by grind)).mono fun e w'' ⟨v,r',he,hq,_,hv,hb⟩=>?_;grind [D8]
theorem XI (h:R F st a w G) {o:Oper} {g:Bool} {K:St->Prop} {Q:Exit->Act->World->Prop} (hs:yT P F.I o st g K):
 if g then o.wp P a w (hH F K) Q else hH F K (a.put o.dst Go.undef) w:=by
 unfold yT at hs;rcases hs with hs | hs
 ·split
  ·grind [LY]
  ·rename_i hg;have hg':g=false:=by grind
   obtain⟨x,an,h1,h2⟩:=hs.2 hg';exact⟨an,G,h2,(ZD h hg').less h1⟩
 split at hs
 ·obtain⟨x,hx,hs⟩:=hs;split
  ·rename_i hg;obtain⟨v,q1,q2⟩:=D9 h hg (hx hg).1;rw [(hx hg).2]at q1;exact Au (q2 w (Ca.refl w)) ⟨_,G,hs,cO h hg q1⟩
  ·rename_i hg;exact⟨_,G,hs,ZD h (by grind)⟩
 ·rename_i f xs hk;obtain⟨h1,r,hr,hc,hK⟩:=hs;split
  ·rename_i hg;unfold Oper.wp Oper.upon;rw [N1 hk (hc hg).ent w];rcases hr with hr | n_
   rotate_left
   ·have hp:=(h1 hg).2;have h2:=ES h (av:=fun b=>G.wr b) (fun _ _ q=>q) (by grind) hp (by simpa using h.args hg (h1 hg).1:Ao w G (st.args g xs).2 (xs.map a.eval));refine((hc hg).run w (xs.map a.eval).toArray (fun b=>G.wr b) (h.inv w h.hsize h.ext) (fun b hb=>h.aei hb) (by grind)).mono fun e w' ⟨v,r',he,hq,hpr,hr',hb⟩=>?_;subst he hq;exact⟨_,G,hK,cO (h.same (Co hb) (Cx hb)) hg (by grind [TB])⟩
   refine(TK h hg (h1 hg).1 (h1 hg).2 hr (hc hg) ⟨rfl,rfl,rfl⟩ (Ca.refl w)).mono fun e w' ⟨he,hb⟩=>?_;subst he;exact⟨_,G,hK,cO (h.same (Co hb) (Cx hb)) hg ((D8 hr).2 rfl)⟩
  ·rename_i hg;exact⟨_,G,hK,ZD h (by grind)⟩
 grind
theorem QZ {Q:Exit->Act->World->Prop} {K:St->Prop} (hQ: ∀ an a' w' G',K an->R F an a' w' G'->Q .normal a' w'):
 ∀ (l:List Oper) (st:St) (a:Act) (w:World) (G:Ax),R F st a w G->MH P F.I ops l st K->wpList P ops Q l a w
 | [],st,a,w,G,h,hs=>hQ st a w G hs h
 | o::rest,st,a,w,G,h,hs=>by
   refine wpList_step fun K' hK'=>?_;have aec: ∀ a' w',hH F (fun an=>MH P F.I ops rest an K) a' w'->K' a' w':=fun a' w' ⟨an,G',q,hR⟩=>
    hK' a' w' (QZ hQ rest an a' w' G' hR q)
   have alP: ∀ {o:Oper},o.wp P a w (hH F (fun an=>MH P F.I ops rest an K)) Q->o.wp P a w K' Q:=fun {o} hw=>by
    unfold Oper.wp Oper.upon at *;generalize (execOp a.eval o).run P w=r at *;cases r with
    | ok n w'=>
      cases n<;>simp only at hw ⊢ <;>first
       | exact aec _ _ hw
       | exact hw.mono fun e w'' he=>by grind
       | exact Rows.mono hw fun v w'' he=>aec _ _ he
       | exact hw
    | halt x w'=>grind
   simp only [MH,ZC]at hs;split at hs
   ·rename_i hg;rw [C9 hg,if_pos rfl];exact alP (LY h hs)
   ·rename_i j want hg;split at hs
    ·rename_i g hq;rw [GV h hg hq];have:=XI (Q:=Q) h hs;grind
    grind
end
end Go.PL
namespace Go.PL
open Go Go.RowKit
section
variable {P:Program} {F:Fr} {st:St} {a:Act} {w:World} {G:Ax} {ops:Array Oper}
def MI (w:World) (w':World):Prop:=DD w w'/\Ca w w'
theorem MI.below {w w' w'':World} (h:MI w w') (hb:Below w'.heap.size w' w''):MI w w'':=
 ⟨⟨hb.os.trans h.1.os,hb.tape.trans h.1.tape,hb.output.trans h.1.output⟩,h.2.trans (Cx hb)⟩
theorem GW {o:Oper} {v:Value} {K:Act->Prop} (hr: ∀ w',Ca w w'->(execOp a.eval o).run P w'= .ok (.value v) w') (h:K (a.put o.dst v)):o.quiet P a (MI w) K:=
 ⟨v,fun w' hw'=>by unfold Oper.quietAt;rw [hr w' hw'.2];exact⟨rfl,rfl⟩,h⟩
theorem nG (h:R F st a w G) {o:Oper} {K:St->Prop} {K':Act->Prop} (hK: ∀ an a',K an->R F an a' w G->K' a') (hs:yU P F.I o st K):o.quiet P a (MI w) K':=by
 unfold yU at hs;split at hs
 ·obtain⟨v,q1,q2⟩:=D9 h rfl hs.1;exact GW q2 (hK _ _ hs.2 (h.put q1))
 ·obtain⟨v,q1,q2⟩:=D9 h rfl hs.1;exact GW q2 (hK _ _ hs.2 (h.put q1))
 ·rename_i f xs hk;obtain⟨h1,h2,r,hr,hc,hq⟩:=hs;refine⟨cK r,fun w' hw'=>?_,hK _ _ hq (h.put ((D8 hr).2 rfl))⟩;unfold Oper.quietAt;rw [N1 hk hc.ent w'];exact⟨rfl,(TK h rfl h1 h2 hr hc hw'.1 hw'.2).mono fun e w'' ⟨he,hb⟩=>⟨he,hw'.below hb⟩⟩
 grind
theorem nH (h:R F st a w G) {o:Oper} {g:Bool} {K:St->Prop} {K':Act->Prop} (hK: ∀ an a',K an->R F an a' w G->K' a') (hs:yV P F.I o st g K):
 if g then o.quiet P a (MI w) K' else K' (a.put o.dst Go.undef):=by
 unfold yV at hs;have anx:(∃ x,(g=true->(CT P st g o.op).1/\(CT P st g o.op).2=x)/\K (st.put o.dst (.g g x)))->if g then o.quiet P a (MI w) K' else K' (a.put o.dst Go.undef):=by
  rintro⟨x,hx,hs⟩;split
  ·rename_i hg;obtain⟨v,q1,q2⟩:=D9 h hg (hx hg).1;rw [(hx hg).2]at q1;exact GW q2 (hK _ _ hs (cO h hg q1))
  ·rename_i hg;exact hK _ _ hs (ZD h (by grind))
 split at hs
 ·grind
 ·grind
 ·rename_i f xs hk;obtain⟨h1,r,hr,hc,hq⟩:=hs;split
  ·rename_i hg;refine⟨cK r,fun w' hw'=>?_,hK _ _ hq (cO h hg ((D8 hr).2 rfl))⟩;unfold Oper.quietAt;rw [N1 hk (hc hg).ent w'];exact⟨rfl,(TK h hg (h1 hg).1 (h1 hg).2 hr (hc hg) hw'.1 hw'.2).mono fun e w'' ⟨he,hb⟩=>⟨he,hw'.below hb⟩⟩
  grind
 grind
theorem Q1 {Q':Act->Prop} {K:St->Prop} (hQ: ∀ an a',K an->R F an a' w G->Q' a'):
 ∀ (l:List Oper) (st:St) (a:Act),R F st a w G->XH P F.I ops l st K->wpQuiet P ops (MI w) Q' l a
 | [],st,a,h,hs=>hQ st a hs h
 | o::rest,st,a,h,hs=>by
   have aec: ∀ an a',XH P F.I ops rest an K->R F an a' w G->wpQuiet P ops (MI w) Q' rest a':=fun an a' q hR=>Q1 hQ rest an a' hR q;simp only [XH,yW]at hs;simp only [wpQuiet];split at hs
   ·rename_i hg;rw [C9 hg,if_pos rfl];exact nG h aec hs
   ·rename_i j want hg;split at hs
    ·rename_i g hq;rw [GV h hg hq];exact nH h aec hs
    grind
def Ak (P:Program) (F:Fr) (c:Code) (st:St) (Q:Exit->St->Prop):Prop:=
 ∀ a w G,R F st a w G->c.wp P (fun e a' w'=> ∃ an G',Q e an/\R F an a' w' G') a w
def BW (K:St->Prop) (Q:Exit->St->Prop):Exit->St->Prop
 | .normal,st=>K st
 | e,st=>Q e st
def BI (id:Nat) (Q:Exit->St->Prop):Exit->St->Prop
 | .exit j,st=>if j=id then Q .normal st else Q (.exit j) st
 | e,st=>Q e st
theorem Ak.seq {x y:Code} {Q:Exit->St->Prop} (h:Ak P F x st (BW (fun an=>Ak P F y an Q) Q)):Ak P F (.seq x y) st Q:=
 fun a w G hR=>wp_seq (Code.wp_mono (fun e a' w' ⟨an,G',q,hR'⟩=>by cases e<;>simp only [Exit.then,BW]at q ⊢ <;>first | exact q a' w' G' hR' | grind) (h a w G hR))
theorem Ak.skip {Q:Exit->St->Prop} (h:Q .normal st):Ak P F .skip st Q:=fun _ _ G hR=>wp_skip ⟨st,G,h,hR⟩
theorem Ak.ret {Q:Exit->St->Prop} (h:Q .ret st):Ak P F .ret st Q:=fun _ _ G hR=>wp_ret ⟨st,G,h,hR⟩
theorem Ak.exit {id:Nat} {Q:Exit->St->Prop} (h:Q (.exit id) st):Ak P F (.exit id) st Q:=fun _ _ G hR=>wp_exit ⟨st,G,h,hR⟩
theorem Ak.block {id:Nat} {c:Code} {Q:Exit->St->Prop} (h:Ak P F c st (BI id Q)):Ak P F (.block id c) st Q:=
 fun a w G hR=>wp_block (Code.wp_mono (fun e a' w' ⟨an,G',q,hR'⟩=>by
  cases e<;>simp only [Exit.inBlock,BI]at q ⊢ <;>first
   | grind
   | grind) (h a w G hR))
theorem Ak.cond {c:Operand} {x y:Code} {Q:Exit->St->Prop} {b:Bool} (hc:st.ev c= .c (.bool b)) (h1:b=true->Ak P F x st Q) (h2:b=false->Ak P F y st Q):Ak P F (.cond c x y) st Q:=by
 intro a w G hR;have:=hR.ev c;rw [hc]at this;simp only [Aa,Ab]at this;refine wp_cond this ?_;cases b with
 | true=>exact h1 rfl a w G hR
 | false=>exact h2 rfl a w G hR
theorem Ak.region {id:Nat} {ops:Array Oper} {Q:Exit->St->Prop} (h:MH P F.I ops ops.toList st (Q .normal)):Ak P F (.region id ops false) st Q:=
 fun a w G hR=>wp_region_list (QZ (K:=Q .normal) (fun an _ _ G' q hR'=>⟨an,G',q,hR'⟩) _ _ _ _ _ hR h)
theorem Ak.ahM {id:Nat} {ops:Array Oper} {Q:Exit->St->Prop} (h1:P.follows .mixedOrders =true) (h2:Region.lexB .any ops=true) (h:XH P F.I ops ops.toList st (Q .normal)):Ak P F (.region id ops true) st Q:=by intro a w G hR;refine wp_region_quiet (C:=MI w) h1 h2 ⟨⟨rfl,rfl,rfl⟩,⟨le_refl _,fun _ _=>rfl⟩⟩ ?_;exact Q1 (K:=Q .normal) (fun an a' q hR' w' hw'=>⟨an,G,q,hR'.same hw'.1 hw'.2⟩) _ _ _ hR h
theorem Ak.mono {c:Code} {Q Q':Exit->St->Prop} (h:Ak P F c st Q) (hq: ∀ e an,Q e an->Q' e an):Ak P F c st Q':=
 fun a w G hR=>Code.wp_mono (by grind) (h a w G hR)
theorem Ak.less {c:Code} {an:St} {Q:Exit->St->Prop} (hl:B0 st an) (h:Ak P F c an Q):Ak P F c st Q:=
 fun a w G hR=>h a w G (hR.less hl)
theorem Ak.loop {X:Type} (S:X->St) (inv:X->Prop) (μ:X->Nat) {c:Code} {Q:Exit->St->Prop} (x0:X) (h0:inv x0) (hl:B0 st (S x0))
 (hb: ∀ x,inv x->Ak P F c (S x) (BW (fun an=> ∃ y,inv y/\μ y<μ x/\B0 an (S y)) Q)):Ak P F (.loop c) st Q:=by
 intro a w G hR;refine wp_loop_ghost (fun n a' w'=> ∃ x G',inv x/\μ x=n/\R F (S x) a' w' G') (μ x0) ⟨x0,G,h0,rfl,hR.less hl⟩ ?_;intro n a' w' ⟨x,G',hx,hn,hR'⟩;subst hn;refine Code.wp_mono (fun e a'' w'' ⟨an,G'',q,ami⟩=>?_) (hb x hx a' w' G' hR');cases e<;>simp only [BW]at q
 case normal=>
  obtain⟨y,hy,hm,hl'⟩:=q;exact⟨μ y,hm,y,G'',hy,rfl,ami.less hl'⟩
 all_goals exact⟨an,G'',q,ami⟩
end
end Go.PL
namespace Go.PL
open Go Go.RowKit
def N2 (P:Program) (st:St):ResultVar->Prop×V
 | .tmp t=>(True,Bc st (st.get t))
 | .cell t T=>let r:=CM P T st (st.get t)
   (r.1,Bc st r.2)
def Ea (P:Program) (st:St):List ResultVar->Prop×List V
 | []=>(True,[])
 | x::xs=>((N2 P st x).1/\(Ea P st xs).1,(N2 P st x).2::(Ea P st xs).2)
def CZ (P:Program) (st:St):List ResultVar->Prop×V
 | [x]=>N2 P st x
 | xs=>((Ea P st xs).1, .tup (Ea P st xs).2)
def lu (P:Program) (fn:Func) (Q:V->Prop):Exit->St->Prop
 | .normal,st=>(CZ P st fn.results.toList).1/\(CZ P st fn.results.toList).2.pure =true/\Q (CZ P st fn.results.toList).2
 | .ret,st=>(CZ P st fn.results.toList).1/\(CZ P st fn.results.toList).2.pure =true/\Q (CZ P st fn.results.toList).2
 | _,_=>False
def St.start (args:List V) (n:Nat):St:={tm:=args++List.replicate (n - args.length) .undef,so:=[]}
theorem Dx {w:World} {G:Ax}: ∀ {xs:List V} {vs:List Value},Ao w G xs vs->xs.length=vs.length
 | [],vs,h=>by grind [Ao]
 | x::xs,vs,h=>by simp only [Ao]at h;obtain⟨v,r,rfl,_,h2⟩:=h;simp [Dx h2]
def GX (I:World->Prop):Prop:= ∀ w w':World,I w->w.heap.size<=w'.heap.size->(∀ b,b<w.heap.size->w'.heap[b]? =w.heap[b]?)->I w'
theorem R.start {I:World->Prop} (IN:GX I) {w:World} (hI:I w) {vs:Array Value} {av:Nat->Prop} (hav: ∀ b,av b->b<w.heap.size) {args:List V} (h:Ao w (im av) args vs.toList) (n:Nat):
 R ⟨w,av,fun _=>False,I,[]⟩ (St.start args n) {tmps:=vs++Array.replicate (n - vs.size) Go.undef,defers:=[]} w (im av):=by
 have hl:=Dx h;have hl':args.length=vs.size:=by grind
 exact {
  dfr:=rfl
  size:=by simp [St.start,hl']
  slots:=by
   intro i;simp only [St.start,List.getD_eq_getElem?_getD,Array.getD_eq_getD_getElem?];by_cases hi:i<args.length
   ·grind [Gt]
   grind [Aa]
  t_:=by simp [St.start,Ao]
  store:=by simp [St.start]
  deep:=by simp [St.start]
  k_:=by simp [St.start]
  nodup:=by simp [St.start]
  inj:=by simp [im]
  lt:=by simp [im]
  new:=by simp [im]
  wr:=by simp [im]
  Tu:=hav
  inv:=fun w' h1 h2=>IN w w' hI h1 (by grind)
  Kq:=by simp
  os:=rfl,tape:=rfl,output:=rfl,hsize:=le_refl _,ext:=fun _ _ _=>rfl}
section
variable {P:Program} {F:Fr} {st:St} {a:Act} {w:World} {G:Ax}
theorem R.out (h:R F st a w G) (hold: ∀ b, ¬F.Tc b) {x:V} {v:Value} (hp:(Bc st x).pure =true) (hr:Aa w G x v):Aa w (im F.av) (Bc st x) v:=by
 refine XF h (fun b _ hb=>(h.wr b).2 (.inl hb)) (fun id _ _ b hb hav=>?_) hp hr;rcases h.new id b hb with q | q
 ·have:=h.Tu b hav;omega
 grind
theorem XJ {t:TypeId} {x:V} {u:Value} (hx:Aa w G x u) (hs:(CM P t st x).1): ∃ p,u= .pointer (some p):=by
 unfold CM at hs;split at hs
 ·simp only [Aa,Ab]at hx;grind
 ·simp only [Aa,Ab]at hx;grind
 grind
def EU (tmps:Array Value):ResultVar->Sem Value
 | .tmp t=>pure (tmps.getD t Go.undef)
 | .cell a t=>do loadVar t (<-asAddr (tmps.getD a Go.undef))
theorem TL (h:R F st a w G) (hold: ∀ b, ¬F.Tc b) {x:ResultVar} (hs:(N2 P st x).1) (hp:(N2 P st x).2.pure =true):
 ∃ v,(EU a.tmps x).run P w= .ok v w/\Aa w (im F.av) (N2 P st x).2 v:=by
 cases x with
 | tmp t=>exact⟨_,rfl,h.out hold hp (h.slots t)⟩
 | cell t T=>
   simp only [N2]at hs hp ⊢;obtain⟨v,q1,q2⟩:=KJ (P:=P) h (h.slots t) hs;obtain⟨p,aob⟩:=XJ (h.slots t) hs;refine⟨v,?_,h.out hold hp q1⟩;grind [Ca.refl,EU,asAddr,Instr.loadAt,Instr.sureAddr]
theorem Q3 (h:R F st a w G) (hold: ∀ b, ¬F.Tc b): ∀ {xs:List ResultVar},(Ea P st xs).1->BA (Ea P st xs).2=true->
 ∃ vs,(xs.mapM (EU a.tmps)).run P w= .ok vs w/\Ao w (im F.av) (Ea P st xs).2 vs
 | [],_,_=>(by simp_all [Ea,Ao])
 | x::xs,hs,hp=>by simp only [Ea]at hs hp ⊢;simp only [BA,and_eq_true]at hp;obtain⟨v,q1,q2⟩:=TL h hold hs.1 hp.1;obtain⟨vs,k1,k2⟩:=Q3 h hold hs.2 hp.2;exact⟨v::vs,by simp_all,by simp only [Ao];grind⟩
theorem Da {fn:Func} {tmps:Array Value} {vs:List Value} (h:(fn.results.toList.mapM (EU tmps)).run P w= .ok vs w):
 (results fn tmps).run P w= .ok (match vs with | [v]=>v | vs=> .tuple vs.toArray) w:=by
 have e:fn.results.mapM (EU tmps)=List.toArray<$>fn.results.toList.mapM (EU tmps):=by obtain⟨l,hl⟩: ∃ l:List ResultVar,fn.results=l.toArray:=(by grind);grind
 have e2:results fn tmps=(do
  let vs <-fn.results.mapM (EU tmps)
  pure (if h:vs.size=1 then vs[0]else .tuple vs)):=by
  unfold results;congr 1
  all_goals (try (congr 1;funext x;cases x<;>rfl))
 rw [e2,e];simp only [Sem.run_bind,Sem.run_map,h,Result.andThen_ok]
 match vs with
 | []=>simp
 | [v]=>simp
 | v::u::vs=>simp
theorem io (h:R F st a w G) (hold: ∀ b, ¬F.Tc b) {fn:Func} (hs:(CZ P st fn.results.toList).1) (hp:(CZ P st fn.results.toList).2.pure =true):
 ∃ v,(results fn a.tmps).run P w= .ok v w/\Aa w (im F.av) (CZ P st fn.results.toList).2 v:=by
 unfold CZ at *;split at hs
 ·rename_i x hx;simp only [hx]at hp ⊢;obtain⟨v,q1,q2⟩:=TL h hold hs hp;simp_all [Da]
 ·rename_i xs n_;split at hp
  ·grind
  ·obtain⟨vs,q1,q2⟩:=Q3 h hold hs (by simpa only [V.pure] using hp);refine⟨.tuple vs.toArray,?_,?_⟩
   ·have:=Da (P:=P) (w:=w) (fn:=fn) (tmps:=a.tmps) q1;rw [this];have hl:=Dx q2
    match hvs:vs with
    | []=>rfl
    | [v]=>
      exfalso;have hxl: ∀ xs:List ResultVar,(Ea P st xs).2.length =xs.length:=by intro xs;induction xs<;>grind [Ea]
      rw [hxl]at hl
      match hr:fn.results.toList,hl with
      | [x],_=>grind
    | v::u::vs=>rfl
   ·simp only [Aa];grind
theorem R.below (h:R F st a w G) (hold: ∀ b, ¬F.Tc b):Below F.w0.heap.size F.w0 w:=⟨h.os,h.tape,h.output,h.hsize,fun b hb=>h.ext b hb (hold b)⟩
end
theorem Cm.of {P:Program} {I:World->Prop} (IN:GX I) {f:FuncId} {fn:Func} {c:Code} {args:List V} {Q:V->Prop} (aao:PL.ent P f=true) (hf:P.funcs[f]? =some fn) (hb:fn.body=some c)
 (h: ∀ F,F.I=I->Ak P F c (St.start args fn.ntmps) (lu P fn Q)):Cm P I f args Q:=by
 refine⟨aao,fun w vs av hI hav aas=>calls_of_wp hf hb ?_⟩;have hR:=R.start IN hI hav aas fn.ntmps;refine Code.wp_mono (fun e a' w' ⟨an,G',q,hR'⟩=>?_) (h _ rfl _ _ _ hR);have fin:(CZ P an fn.results.toList).1/\(CZ P an fn.results.toList).2.pure =true/\Q (CZ P an fn.results.toList).2->
  a'.defers=[]/\ ∃ v,(results fn a'.tmps).run P w'= .ok v w'/\(fun(e:Ending) w''=> ∃ v r,e= .returned v/\Q r/\r.pure=true/\Aa w'' (im av) r v/\Below w.heap.size w w'') (.returned v) w':=by
  intro ⟨q1,q2,q3⟩;obtain⟨v,k1,k2⟩:=io hR' (fun _ hx=>hx) (fn:=fn) q1 q2;exact⟨hR'.dfr,v,k1,v,_,rfl,q3,q2,k2,hR'.below (fun _ hx=>hx)⟩
 cases e<;>simp only [lu]at q<;>first | exact fin q | exact q.elim
end Go.PL
namespace Go.PL
open Go Go.RowKit
section
variable {P:Program} {I:World->Prop} {F:Fr} {ops:Array Oper} {rest:List Oper} {st st1:St} {d:Option Nat} {op:Op} {ty:TypeId} {pos:String} {af:Array Edge}
variable {K:St->Prop}
theorem BI.out {Q:Exit->St->Prop} {i:Nat} (h:Q .normal st):BI i Q (.exit i) st:=by simp_all [BI]
variable {j:Nat} {want g:Bool}
theorem Cm.body (ac7:GX I) {f:FuncId} {fn:Func} {c:Code} {args:List V} {Q:V->Prop} {n:Nat} {rs:List ResultVar} (aao:PL.ent P f=true) (hf:P.funcs[f]? =some fn) (hb:fn.body=some c) (hn:fn.ntmps=n) (hr:fn.results=rs.toArray)
 (IN:St.start args n=st)
 (h: ∀ w0 av Tc gv,Ak P ⟨w0,av,Tc,I,gv⟩ c st (fun e an=>(e= .normal \/e= .ret)/\(CZ P an rs).1/\(CZ P an rs).2.pure =true/\Q (CZ P an rs).2)):Cm P I f args Q:=by
 refine Cm.of ac7 aao hf hb (fun F hF=>?_);obtain⟨w0,av,Tc,I',gv⟩:=F;simp only at hF;subst hF;rw [hn,IN];refine(h w0 av Tc gv).mono fun e an ⟨he,q⟩=>?_;have:fn.results.toList=rs:=by rw [hr]
 rcases he with rfl | rfl<;>simp only [lu,this]<;>exact q
end
end Go.PL
namespace Go.PL
open Go Go.RowKit
attribute [go_sem] BC CT rd y_ M3 St.arg St.args St.ev St.get Jn B3 CY S7 M2 R6 IM AU Fp FX IL uQ WO ii Cg WN
 St.put St.after St.look St.aaP St.abc St.cutAt St.freeze St.new St.kill Ar.kill St.start St.parts
 CM toV Bq GN Bz FQ EM M0 Zv Zw GP HO HN Jq KM GR V.cells ER R7 ij Em QW HQ AS PL.ef NX
 F5 HS Bc N0 qc Cc Ft DB C.g_ Bm V.g_ Ij C.flat V.flat Ik C.pure Al V.pure BA CZ N2 Ea HJ IS J6 St.aaI
attribute [go_sem] getD_cons_zero List.getD_cons_succ List.set_cons_zero List.set_cons_succ map_cons List.map_nil List.filter_cons List.filter_nil List.find?_cons List.find?_nil
 cons_append List.nil_append List.length_cons List.length_nil List.replicate_succ List.replicate_zero List.take_succ_cons List.take_zero List.drop_succ_cons List.drop_zero flatMap_cons List.flatMap_nil List.append_nil
 List.all_cons List.all_nil Bool.and_true Bool.true_and Bool.and_false Bool.false_and Bool.or_false Bool.or_true Bool.false_or Bool.true_or
 beq_self_eq_true if_true if_false true_and and_true map_some Option.map_none List.getElem?_cons_zero List.getElem?_cons_succ
theorem yX {α:Type} (a b:α):(if true then a else b)=a:=rfl
theorem yY {α:Type} (a b:α):(if false then a else b)=b:=rfl
theorem Acj:(true=true)=True:=by simp
theorem Ack:(false=true)=False:=by simp
theorem yZ (p:Prop):(true=true->p)=p:=by simp
theorem ahS (b:Bool):(if b then true else false)=b:=by grind
theorem agl (b:Bool):(b==true)=b:=by simp_all
theorem afy (b:Bool):(b==false)= !b:=by grind
theorem uZ (b c:Bool):(if b then c else false)=(b&&c):=by grind
theorem y6 (b c:Bool):(if b then true else c)=(b||c):=by grind
attribute [go_sem] yX yY Acj Ack yZ ahS agl afy uZ y6 Bool.not_true Bool.not_false Bool.not_not
end Go.PL
