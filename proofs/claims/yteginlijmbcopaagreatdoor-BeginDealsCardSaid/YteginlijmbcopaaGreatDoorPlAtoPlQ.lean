/- The pure logic: PlA, PlB, PlC, PlD, PlE, PlF, PlG, PlH, PlI, PlJ, PlK, PlL, PlLe, PlM, PlN, PlO, PlP, PlQ. -/
import Derived.WalkKit
import Derived.WalkSpells
import Derived.WalkLawsBesides
import Derived.Deep.MidRow
import Derived.Deep.LoopGhost
import Derived.Deep.QuietTactic
import Derived.BigQuiet
import Derived.Laws.StructEq
import Derived.DeepKeys
open Nat (le_refl lt_of_lt_of_le zero_le add_mul le_trans add_zero)
open Bool (and_eq_true false_eq_true not_eq_true')
open List (map_cons mem_map mem_filter take_append_drop find?_some drop_drop flatMap_cons mem_iff_getElem getD_cons_zero cons_append foldl_cons map_map)
open Option.some (injEq)
open Option (map_some)
set_option linter.all false
namespace Go.PL
open Go Go.RowKit
abbrev Ah:=List Nat
inductive C where
 | int (k:IntKind) (n:Int)
 | bool (b:Bool)
 | str (s:List UInt8)
 | sl (len:Nat) (cs:List C)
 | n_ (id:Ah)
 | ptr (id:Ah) (off:Nat)
 | bsl (id:Ah) (off len:Nat)
 | bld (id:Ah) (T:TypeId)
 | acm (cs:List C) (off:Nat)
 | acV
 | aaJ
 | Tv
 | fn (f:FuncId)
 | clo (f:FuncId) (cs:List C)
 | held
 | any
 | agP (id:Ah)
 | agZ (g off:Nat)
 | bmv (f:FuncId) (cs:List C)
 | mp (kv:List (Int×Int))
 | isl (E:TypeId) (n len:Nat) (cs:List C)
 | rsl (id:Ah) (N off len:Nat)
inductive V where
 | c (x:C)
 | agg (cs:List C)
 | tup (vs:List V)
 | g (b:Bool) (v:V)
 | undef
structure AJ where
 y_:Ah->Option Nat
 own:Ah->Option Value
 wr:Nat->Prop
mutual
def C.pure:C->Bool
 | .n_ _=>false
 | .ptr .. =>false
 | .bsl .. =>false
 | .rsl .. =>false
 | .bld .. =>false
 | .agP _=>false
 | .mp _=>false
 | .clo _ cs=>Au cs
 | .bmv _ cs=>Au cs
 | _=>true
def Au:List C->Bool
 | []=>true
 | c::cs=>c.pure&&Au cs
end
mutual
def Af (w:World) (G:AJ):C->Value->Prop
 | .int k n,v=>v= .int k n
 | .bool b,v=>v= .bool b
 | .str s,v=>v= .string ⟨s.toArray⟩
 | .sl len cs,v=>Au cs=true/\ ∃ a cap,v= .slice a len cap/\len<=cap/\cap<=maxLen/\(len=0->cs=[])/\
  (len=0\/ ∃ b off,a=some ⟨b,off,none⟩/\ ¬G.wr b/\b<w.heap.size/\Am w G cs b off)
 | .n_ id,v=>G.own id=some v/\v.oneCell'=true
 | .ptr id off,v=> ∃ b,G.y_ id=some b/\v= .pointer (some ⟨b,off,none⟩)
 | .bsl id off len,v=> ∃ b cap o,G.y_ id=some b/\v= .slice (some ⟨b,o,none⟩) len cap/\len<=cap/\o<=off/\(len=0\/o=off)
 | .bld id T,v=> ∃ b,G.y_ id=some b/\(∃ cur fz,w.heap[b]? =some (.cells cur T fz))/\(v= .pointer none\/v= .pointer (some ⟨b,0,none⟩))
 | .acm cs off,v=>Au cs=true/\ ∃ b o,v= .pointer (some ⟨b,o+off,none⟩)/\ ¬G.wr b/\b<w.heap.size/\Am w G cs b o
 | .acV,v=>v= .pointer none
 | .aaJ,v=>v= .nilIface
 | .Tv,v=>v= .slice none 0 0
 | .fn f,v=>v= .func (.func f) #[] #[]
 | .clo f cs,v=> ∃ arr:Array Value,v= .func (.func f) #[] arr/\Ai w G cs arr.toList
 | .bmv f cs,v=> ∃ arr:Array Value,v= .func (.func f) arr #[]/\Ai w G cs arr.toList
 | .held,v=> ∃ t x,v= .iface t x
 | .any,v=>v.oneCell'=true
 | .agP id,v=> ∃ b,G.y_ id=some b/\v= .map (some b)
 | .agZ g off,v=>v= .pointer (some ⟨g,off,none⟩)
 | .mp _,_=>False
 | .isl ..,v=>v.oneCell'=true
 | .rsl id N off len,v=> ∃ b ajp akV o cap,G.own id=some (.slice (some ⟨b,0,none⟩) ajp akV)/\v= .slice (some ⟨b,o,none⟩) len cap/\len<=cap/\off+cap=akV/\(off<akV->o=off*N)
def Am (w:World) (G:AJ):List C->Nat->Nat->Prop
 | [],_,_=>True
 | c::cs,b,off=>(∃ v,w.cell? ⟨b,off,none⟩=some v/\Af w G c v)/\Am w G cs b (off+1)
def Ai (w:World) (G:AJ):List C->List Value->Prop
 | [],[]=>True
 | c::cs,v::vs=>Af w G c v/\Ai w G cs vs
 | [],_::_=>False
 | _::_,[]=>False
end
mutual
def Ad (w:World) (G:AJ):V->Value->Prop
 | .c x,v=>Af w G x v
 | .agg cs,v=> ∃ arr,v= .agg arr/\Ai w G cs arr.toList
 | .tup vs,v=> ∃ arr,v= .tuple arr/\Aw w G vs arr.toList
 | .g b x,v=>if b then Ad w G x v else v=Go.undef
 | .undef,_=>True
def Aw (w:World) (G:AJ):List V->List Value->Prop
 | [],vs=>vs=[]
 | x::xs,vs=> ∃ v r,vs=v::r/\Ad w G x v/\Aw w G xs r
end
mutual
def C.E_ (id:Ah):C->Bool
 | .n_ i=>i==id
 | .ptr i _=>i==id
 | .bsl i _ _=>i==id
 | .rsl i _ _ _=>i==id
 | .bld i _=>i==id
 | .agP i=>i==id
 | .clo _ cs=>BO id cs
 | .bmv _ cs=>BO id cs
 | _=>false
def BO (id:Ah):List C->Bool
 | []=>false
 | c::cs=>c.E_ id||BO id cs
end
mutual
theorem HG (id:Ah): ∀ c:C,c.pure=true->c.E_ id=false
 | .n_ _,h=>by simp [C.pure]at h
 | .ptr ..,h=>by simp [C.pure]at h
 | .bsl ..,h=>by simp [C.pure]at h
 | .rsl ..,h=>by simp [C.pure]at h
 | .bld ..,h=>by simp [C.pure]at h
 | .agP ..,h=>by simp [C.pure]at h
 | .mp ..,h=>by simp [C.pure]at h
 | .isl ..,_=>by simp [C.E_]
 | .agZ ..,_=>by simp [C.E_]
 | .clo _ cs,h=>by simp only [C.E_];exact AU id cs (by simpa only [C.pure] using h)
 | .bmv _ cs,h=>by simp only [C.E_];exact AU id cs (by simpa only [C.pure] using h)
 | .sl ..,_=>by simp [C.E_]
 | .acm ..,_=>by simp [C.E_]
 | .int ..,_=>by simp [C.E_]
 | .bool _,_=>by simp [C.E_]
 | .str _,_=>by simp [C.E_]
 | .acV,_=>by simp [C.E_]
 | .aaJ,_=>by simp [C.E_]
 | .Tv,_=>by simp [C.E_]
 | .fn _,_=>by simp [C.E_]
 | .held,_=>by simp [C.E_]
 | .any,_=>by simp [C.E_]
theorem AU (id:Ah): ∀ cs:List C,Au cs=true->BO id cs=false
 | [],_=>by simp [BO]
 | c::cs,h=>by simp only [Au,and_eq_true]at h;simp [BO,HG id c h.1,AU id cs h.2]
end
theorem B6: ∀ l:List C,Au l=l.all C.pure
 | []=>rfl
 | c::l=>by simp [Au,B6 l]
theorem BR (l m:List C):Au (l++m)=(Au l&&Au m):=by simp [B6]
variable {α:Type}
theorem OO (f:α->C) (h: ∀ x,(f x).pure =true) (l:List α):Au (l.map f)=true:=by simp [B6,h]
theorem Cg (f:α->List C) (h: ∀ x,Au (f x)=true): ∀ l:List α,Au (l.flatMap f)=true
 | []=>rfl
 | a::l=>by rw [flatMap_cons,BR,h,Cg f h l];rfl
variable {l:List C}
theorem Mc (n:Nat) (h:Au l=true):Au (l.take n)=true:=by grind [B6]
theorem Md (n:Nat) (h:Au l=true):Au (l.drop n)=true:=by grind [B6]
theorem tP (n:Nat) (h:Au l=true):(l.getD n .any).pure =true:=by
 rw [List.getD_eq_getElem?_getD];cases hx:l[n]? with
 | none=>rfl
 | some x=>grind [B6]
def Jd (S:Ah->Prop) (G G':AJ):Prop:= ∀ id,S id->G'.y_ id=G.y_ id/\G'.own id=G.own id
def B7 (w w':World) (b:Nat):Prop:= ∀ cur T fz,w.heap[b]? =some (.cells cur T fz)-> ∃ adS fz',w'.heap[b]? =some (.cells adS T fz')
variable {w w':World} {b:Nat}
theorem B7.same (h:w'.heap[b]? =w.heap[b]?):B7 w w' b:=fun cur _ fz q=>⟨cur,fz,h.trans q⟩
structure Cf (G G':AJ) (w w':World):Prop where
 size:w.heap.size<=w'.heap.size
 block: ∀ b,b<w.heap.size-> ¬G.wr b->w'.heap[b]? =w.heap[b]?
 wr: ∀ b,b<w.heap.size->G'.wr b->G.wr b
 ty: ∀ i b,G.y_ i=some b->G'.y_ i=some b->B7 w w' b
mutual
theorem Af.one {w:World} {G:AJ}: ∀ {c:C} {v:Value},Af w G c v->v.oneCell'=true
 | .int ..,v,h=>by simp only [Af]at h;subst h;rfl
 | .bool ..,v,h=>by simp only [Af]at h;subst h;rfl
 | .str ..,v,h=>by simp only [Af]at h;subst h;rfl
 | .sl ..,v,h=>by simp only [Af]at h;obtain⟨_,a,cap,rfl,_⟩:=h;rfl
 | .n_ _,v,h=>by grind [Af]
 | .ptr ..,v,h=>by simp only [Af]at h;obtain⟨b,_,rfl⟩:=h;rfl
 | .bsl ..,v,h=>by simp only [Af]at h;obtain⟨b,cap,o,_,rfl,_⟩:=h;rfl
 | .rsl ..,v,h=>by simp only [Af]at h;obtain⟨_,_,_,_,_,_,rfl,_⟩:=h;rfl
 | .bld ..,v,h=>by simp only [Af]at h;obtain⟨b,_,_,rfl | rfl⟩:=h<;>rfl
 | .acm ..,v,h=>by simp only [Af]at h;obtain⟨_,b,o,rfl,_⟩:=h;rfl
 | .acV,v,h=>by simp only [Af]at h;subst h;rfl
 | .aaJ,v,h=>by simp only [Af]at h;subst h;rfl
 | .Tv,v,h=>by simp only [Af]at h;subst h;rfl
 | .fn _,v,h=>by simp only [Af]at h;subst h;rfl
 | .clo ..,v,h=>by simp only [Af]at h;obtain⟨arr,rfl,_⟩:=h;rfl
 | .bmv ..,v,h=>by simp only [Af]at h;obtain⟨arr,rfl,_⟩:=h;rfl
 | .held,v,h=>by simp only [Af]at h;obtain⟨t,x,rfl⟩:=h;rfl
 | .any,v,h=>by grind [Af]
 | .agP ..,v,h=>by simp only [Af]at h;obtain⟨b,_,rfl⟩:=h;rfl
 | .mp ..,v,h=>by simp only [Af]at h
 | .isl ..,v,h=>by grind [Af]
 | .agZ ..,v,h=>by simp only [Af]at h;subst h;rfl
end
theorem aaD (h:w'.heap[b]? =w.heap[b]?) (o:Nat):w'.cell? ⟨b,o,none⟩=w.cell? ⟨b,o,none⟩:=
 (by grind [World.cell?_of_block])
mutual
variable {w w':World} {G G':AJ}
theorem Af.mono (hk:Cf G G' w w'): ∀ (c:C) (v:Value),Jd (fun id=>c.E_ id=true) G G'->Af w G c v->Af w' G' c v
 | .int ..,_,_,h=>by grind [Af]
 | .bool ..,_,_,h=>by grind [Af]
 | .str ..,_,_,h=>by grind [Af]
 | .sl len cs,v,ha,h=>by
   simp only [Af]at h ⊢;obtain⟨hp,a,cap,h1,h2,h3,h4,h5⟩:=h;refine⟨hp,a,cap,h1,h2,h3,h4,?_⟩;rcases h5 with h5 | ⟨b,off,e,hm,hb,hr⟩
   ·grind
   ·exact .inr ⟨b,off,e,fun hm'=>hm (hk.wr b hb hm'),lt_of_lt_of_le hb hk.size,Am.mono hk cs b off (fun id hid=>absurd (show BO id cs=true from hid) (by rw [AU id cs hp];simp)) (fun o=>aaD (hk.block b hb hm) o) hr⟩
 | .n_ id,v,ha,h=>by simp only [Af]at h ⊢;rw [(ha id (by simp [C.E_])).2];exact h
 | .ptr id off,v,ha,h=>by simp only [Af]at h ⊢;rw [(ha id (by simp [C.E_])).1];exact h
 | .bsl id off len,v,ha,h=>by simp only [Af]at h ⊢;rw [(ha id (by simp [C.E_])).1];exact h
 | .rsl id N off len,v,ha,h=>by simp only [Af]at h ⊢;rw [(ha id (by simp [C.E_])).2];exact h
 | .bld id T,v,ha,h=>by
   simp only [Af]at h ⊢;obtain⟨b,h1,⟨cur,fz,h2⟩,h3⟩:=h;have h4:G'.y_ id=some b:=by rw [(ha id (by simp [C.E_])).1];exact h1
   exact⟨b,h4,hk.ty id b h1 h4 cur T fz h2,h3⟩
 | .acm cs off,v,ha,h=>by simp only [Af]at h ⊢;obtain⟨hp,b,o,e,hm,hb,hr⟩:=h;exact⟨hp,b,o,e,fun hm'=>hm (hk.wr b hb hm'),lt_of_lt_of_le hb hk.size,Am.mono hk cs b o (fun id hid=>absurd (show BO id cs=true from hid) (by rw [AU id cs hp];simp)) (fun o=>aaD (hk.block b hb hm) o) hr⟩
 | .acV,_,_,h=>by grind [Af]
 | .aaJ,_,_,h=>by grind [Af]
 | .Tv,_,_,h=>by grind [Af]
 | .fn _,_,_,h=>by grind [Af]
 | .clo f cs,v,ha,h=>by simp only [Af]at h ⊢;obtain⟨arr,e,hr⟩:=h;exact⟨arr,e,Ai.mono hk cs _ (fun id hid=>ha id (by simpa only [C.E_] using hid)) hr⟩
 | .bmv f cs,v,ha,h=>by simp only [Af]at h ⊢;obtain⟨arr,e,hr⟩:=h;exact⟨arr,e,Ai.mono hk cs _ (fun id hid=>ha id (by simpa only [C.E_] using hid)) hr⟩
 | .held,_,_,h=>by grind [Af]
 | .any,_,_,h=>by grind [Af]
 | .agP id,v,ha,h=>by simp only [Af]at h ⊢;rw [(ha id (by simp [C.E_])).1];exact h
 | .mp ..,_,_,h=>by simp only [Af]at h
 | .isl ..,_,_,h=>by grind [Af]
 | .agZ ..,_,_,h=>by grind [Af]
theorem Am.mono (hk:Cf G G' w w'): ∀ (cs:List C) (b off:Nat),Jd (fun id=>BO id cs=true) G G'->(∀ o,w'.cell? ⟨b,o,none⟩=w.cell? ⟨b,o,none⟩)->Am w G cs b off->Am w' G' cs b off
 | [],_,_,_,_,h=>by simp only [Am]
 | c::cs,b,off,ha,hc,h=>by
   simp only [Am]at h ⊢;obtain⟨⟨v,hv,hr⟩,aln⟩:=h;exact⟨⟨v,by grind,Af.mono hk c v (fun id hid=>ha id (by simp_all [BO])) hr⟩,
    Am.mono hk cs b (off+1) (fun id hid=>ha id (by simp_all [BO])) hc aln⟩
theorem Ai.mono (hk:Cf G G' w w'): ∀ (cs:List C) (vs:List Value),Jd (fun id=>BO id cs=true) G G'->Ai w G cs vs->Ai w' G' cs vs
 | [],[],_,_=>by simp only [Ai]
 | [],_::_,_,h=>by simp only [Ai]at h
 | _::_,[],_,h=>by simp only [Ai]at h
 | c::cs,v::vs,ha,h=>by
   simp only [Ai]at h ⊢;exact⟨Af.mono hk c v (fun id hid=>ha id (by simp_all [BO])) h.1,
    Ai.mono hk cs vs (fun id hid=>ha id (by simp_all [BO])) h.2⟩
end
mutual
def V.E_ (id:Ah):V->Bool
 | .c x=>x.E_ id
 | .agg cs=>BO id cs
 | .tup vs=>KN id vs
 | .g b v=>v.E_ id&&b
 | .undef =>false
def KN (id:Ah):List V->Bool
 | []=>false
 | v::vs=>v.E_ id||KN id vs
end
mutual
variable {w w':World} {G G':AJ}
theorem Ad.mono (hk:Cf G G' w w'): ∀ (x:V) (v:Value),Jd (fun id=>x.E_ id=true) G G'->Ad w G x v->Ad w' G' x v
 | .c x,v,ha,h=>by grind [Ad,Af.mono,V.E_]
 | .agg cs,v,ha,h=>by grind [Ad,Ai.mono,V.E_]
 | .tup vs,v,ha,h=>by simp only [Ad]at h ⊢;obtain⟨arr,e,hr⟩:=h;exact⟨arr,e,Aw.mono hk vs _ (by simpa only [V.E_] using ha) hr⟩
 | .g b x,v,ha,h=>by
   simp only [Ad]at h ⊢;split
   ·rename_i hb;rw [if_pos hb]at h;exact Ad.mono hk x v (fun id hid=>ha id (by simp only [V.E_,hb,hid,Bool.and_self])) h
   grind
 | .undef,_,_,_=>by simp only [Ad]
theorem Aw.mono (hk:Cf G G' w w'): ∀ (xs:List V) (vs:List Value),Jd (fun id=>KN id xs=true) G G'->Aw w G xs vs->Aw w' G' xs vs
 | [],_,_,h=>by grind [Aw]
 | x::xs,vs,ha,h=>by
   simp only [Aw]at h ⊢;obtain⟨v,r,e,h1,h2⟩:=h;exact⟨v,r,e,Ad.mono hk x v (fun id hid=>ha id (by simp_all [KN])) h1,
    Aw.mono hk xs r (fun id hid=>ha id (by simp_all [KN])) h2⟩
end
variable {G:AJ}
theorem Ai.length: ∀ {cs:List C} {vs:List Value},Ai w G cs vs->cs.length=vs.length
 | [],[],_=>rfl
 | [],_::_,h=>by simp only [Ai]at h
 | _::_,[],h=>by simp only [Ai]at h
 | c::cs,v::vs,h=>by simp only [Ai]at h;simp [Ai.length h.2]
theorem Ai.get: ∀ {cs:List C} {vs:List Value},Ai w G cs vs-> ∀ (i:Nat) (c:C),cs[i]? =some c-> ∃ v,vs[i]? =some v/\Af w G c v
 | [],[],_,i,c,hc=>by simp at hc
 | [],_::_,h,_,_,_=>by grind
 | _::_,[],h,_,_,_=>by simp only [Ai]at h
 | c::cs,v::vs,h,i,d,hd=>by
   simp only [Ai]at h;cases i with
   | zero=>simp at hd;subst hd;exact⟨v,by simp,h.1⟩
   | succ i=>simp at hd;obtain⟨v',h1,h2⟩:=Ai.get h.2 i d hd;exact⟨v',by simpa using h1,h2⟩
theorem Ai.one: ∀ {cs:List C} {vs:List Value},Ai w G cs vs-> ∀ v∈vs,v.oneCell'=true
 | [],[],_,v,hv=>by cases hv
 | [],_::_,h,_,_=>by simp only [Ai]at h
 | _::_,[],h,_,_=>by grind
 | c::cs,v::vs,h,u,hu=>by
   simp only [Ai]at h;rcases List.mem_cons.1 hu with rfl | hu
   ·exact Af.one h.1
   ·exact Ai.one h.2 u hu
theorem Ai.drop: ∀ {cs:List C} {vs:List Value},Ai w G cs vs-> ∀ n,Ai w G (cs.drop n) (vs.drop n)
 | cs,vs,h,0=>by grind
 | [],[],h,n+1=>by simp [Ai]
 | [],_::_,h,_+1=>by simp only [Ai]at h
 | _::_,[],h,_+1=>by simp only [Ai]at h
 | c::cs,v::vs,h,n+1=>by simp only [Ai]at h;simpa using Ai.drop h.2 n
theorem Ai.take: ∀ {cs:List C} {vs:List Value},Ai w G cs vs-> ∀ n,Ai w G (cs.take n) (vs.take n)
 | cs,vs,h,0=>by simp [Ai]
 | [],[],h,n+1=>by simp [Ai]
 | [],_::_,h,_+1=>by simp only [Ai]at h
 | _::_,[],h,_+1=>by simp only [Ai]at h
 | c::cs,v::vs,h,n+1=>by simp only [Ai]at h;simp only [List.take_succ_cons,Ai];exact⟨h.1,Ai.take h.2 n⟩
theorem Ai.append: ∀ {cs:List C} {vs:List Value} {ds:List C} {us:List Value},Ai w G cs vs->Ai w G ds us->Ai w G (cs++ds) (vs++us)
 | [],[],_,_,_,h'=>by grind
 | [],_::_,_,_,h,_=>by simp only [Ai]at h
 | _::_,[],_,_,h,_=>by simp only [Ai]at h
 | c::cs,v::vs,ds,us,h,h'=>by simp only [Ai]at h;simp only [cons_append,Ai];exact⟨h.1,Ai.append h.2 h'⟩
theorem Am.list: ∀ {cs:List C} {b off:Nat},Am w G cs b off-> ∃ vs,Ai w G cs vs/\w.rangeAt b off vs
 | [],b,off,_=>⟨[],by simp only [Ai],fun j v h=>by simp at h⟩
 | c::cs,b,off,h=>by
   simp only [Am]at h;obtain⟨⟨v,hv,hr⟩,aln⟩:=h;obtain⟨vs,h1,h2⟩:=Am.list aln;refine⟨v::vs,by simp only [Ai];exact⟨hr,h1⟩,fun j u hu=>?_⟩;cases j with
   | zero=>simp at hu;subst hu;simpa using hv
   | succ j=>simp at hu;have:=h2 j u hu;rw [show off+(j+1)=off+1+j by omega];exact this
theorem Am.aaY: ∀ {cs:List C} {vs:List Value} {b off:Nat},Ai w G cs vs->w.rangeAt b off vs->Am w G cs b off
 | [],[],b,off,_,_=>by simp only [Am]
 | [],_::_,_,_,h,_=>by simp only [Ai]at h
 | _::_,[],_,_,h,_=>by simp only [Ai]at h
 | c::cs,v::vs,b,off,h,hr=>by simp only [Ai]at h;simp only [Am];refine⟨⟨v,by simpa using hr 0 v (by simp),h.1⟩,Am.aaY h.2 (fun j u hu=>?_)⟩;have:=hr (j+1) u (by simpa using hu);rw [show off+1+j=off+(j+1) by omega];exact this
variable {cs:List C} {off:Nat}
theorem Am.drop (h:Am w G cs b off) (n:Nat):Am w G (cs.drop n) b (off+n):=by obtain⟨vs,h1,h2⟩:=h.list;refine Am.aaY (h1.drop n) (fun j v hv=>?_);rw [List.getElem?_drop]at hv;have:=h2 _ v hv;grind
theorem Am.take (h:Am w G cs b off) (n:Nat):Am w G (cs.take n) b off:=by
 obtain⟨vs,h1,h2⟩:=h.list;refine Am.aaY (h1.take n) (fun j v hv=>?_);rw [List.getElem?_take]at hv;split at hv
 ·exact h2 j v hv
 ·cases hv
end Go.PL
namespace Go.PL
open Go Go.RowKit
structure AB where
 id:Ah
 row:Option (TypeId×Nat×Nat)
 cs:List C
 pu:Bool:=false
structure St where
 tm:List V
 so:List AB
 gh:List V:=[]
 pre:Ah:=[]
structure Fr where
 w0:World
 av:Nat->Prop
 old:Nat->Prop
 I:World->Prop
 gv:List Value:=[]
def Agq (kv:List (Int×Int)) (es:List MapEntry):Prop:=
 es=kv.zipIdx.map fun p=>⟨.int .i64 p.1.1, .int .i64 p.1.2,p.2⟩
def wm (w:World) (G:AJ) (cs:List C) (b:Nat):Prop:=
 (∃ kv es,cs=[.mp kv]/\w.heap[b]? =some (.map es kv.length)/\Agq kv es.toList/\(kv.map (·.1)).Nodup)\/
 (∃ T cur,w.heap[b]? =some (.cells cur T (0,0))/\cur.size=cs.length/\Am w G cs b 0)
def gf:List C->Bool
 | [.mp _]=>true
 | _=>false
variable {w:World} {G:AJ} {b:Nat}
theorem wm.cells {cs:List C} (h:wm w G cs b) (hn:gf cs=false): ∃ T cur,w.heap[b]? =some (.cells cur T (0,0))/\cur.size=cs.length/\Am w G cs b 0:=by
 rcases h with ⟨kv,es,rfl,_⟩ | h
 ·cases hn
 ·exact h
def Ba (w:World) (G:AJ) (e:AB):Prop:=
 match e.row with
 | none=> ∃ b,G.y_ e.id=some b/\wm w G e.cs b
 | some (E,n,len)=>e.cs.length=len*n/\ ∃ v,G.own e.id=some v/\
  ((∃ p,v= .slice p 0 0/\len=0/\G.y_ e.id=none)\/
   ∃ b cap cur,v= .slice (some ⟨b,0,none⟩) len cap/\G.y_ e.id=some b/\w.heap[b]? =some (.cells cur E (0,0))/\len<=cap/\cap<=maxLen/\cur.size=cap*n/\Am w G e.cs b 0)
def C2:Ah->Bool
 | []=>false
 | d::_=>Nat.beq d 1000007
def E9:Ah->Bool
 | []=>false
 | d::_=>Nat.beq d 1000003
def BL (k:Nat) (id:Ah):Ah:=1000007::k::id
variable {k:Nat}
theorem Q4 {j:Nat} {a b:Ah} (h:BL k a=BL j b):k=j/\a=b:=by grind [BL]
theorem j9 (k:Nat) (id:Ah):C2 (BL k id)=true:=rfl
def EP (w:World) (G:AJ) (e:AB):Prop:=
 ∀ k E n len cs,e.cs[k]? =some (.isl E n len cs)->Au cs=true/\Ba w G ⟨BL k e.id,some (E,n,len),cs,true⟩/\
   ∃ b v,G.y_ e.id=some b/\w.cell? ⟨b,k,none⟩=some v/\G.own (BL k e.id)=some v
def Bu (w:World) (G:AJ) (e:AB):Prop:=C2 e.id=false/\(E9 e.id=true->e.pu=true/\e.row.isSome=true/\EP w G e)
structure R (F:Fr) (st:St) (a:Act) (w:World) (G:AJ):Prop where
 dfr:a.defers=[]
 size:a.tmps.size=st.tm.length
 M_: ∀ i,Ad w G (st.tm.getD i .undef) (a.tmps.getD i Go.undef)
 Tk:Aw w G st.gh F.gv
 store: ∀ e∈st.so,Ba w G e
 deep: ∀ e∈st.so,Bu w G e
 P_: ∀ e∈st.so,e.pu=true->Au e.cs=true
 nodup:(st.so.map (·.id)).Nodup
 inj: ∀ i j b,G.y_ i=some b->G.y_ j=some b->i=j
 lt: ∀ i b,G.y_ i=some b->b<w.heap.size
 new: ∀ i b,G.y_ i=some b->F.w0.heap.size<=b\/F.old b
 wr: ∀ b,G.wr b↔F.av b\/ ∃ i,G.y_ i=some b
 abi: ∀ b,F.av b->b<F.w0.heap.size
 inv: ∀ w',F.w0.heap.size<=w'.heap.size->(∀ b,b<F.w0.heap.size-> ¬F.old b->w'.heap[b]? =F.w0.heap[b]?)->F.I w'
 aaI: ∀ b,F.old b-> ¬F.av b
 os:w.os=F.w0.os
 tape:w.tape=F.w0.tape
 output:w.output=F.w0.output
 L_:F.w0.heap.size<=w.heap.size
 ext: ∀ b,b<F.w0.heap.size-> ¬F.old b->w.heap[b]? =F.w0.heap[b]?
def St.get (st:St) (t:Nat):V:=st.tm.getD t .undef
def St.put (st:St) (d:Option Nat) (v:V):St:=
 match d with
 | some d=>{st with tm:=st.tm.set d v}
 | none=>st
def CJ:Value->Option C
 | .int k n=>some (.int k n)
 | .bool b=>some (.bool b)
 | .string s=>some (.str s.data.toList)
 | .pointer none=>some .acV
 | .nilIface =>some .aaJ
 | .slice none 0 0=>some (.sl 0 [])
 | .map none=>some .any
 | _=>none
def DZ:List Value->Option (List C)
 | []=>some []
 | v::vs=>match CJ v,DZ vs with
   | some c,some cs=>some (c::cs)
   | _,_=>none
def Me:Value->V
 | .agg cs=>match DZ cs.toList with
   | some l=> .agg l
   | none=> .undef
 | v=>match CJ v with
   | some c=> .c c
   | none=> .undef
def St.ev (st:St):Operand->V
 | .tmp t=>st.get t
 | .const v=>Me v
 | .func f=> .c (.fn f)
 | .global _=> .undef
def St.arg (st:St) (g:Bool) (x:Operand):Prop×V:=
 match st.ev x with
 | .g c v=>(g=true->c=true,v)
 | v=>(True,v)
theorem P7: ∀ {v:Value} {c:C},CJ v=some c->Af w G c v:=by
 intro v c h;unfold CJ at h;split at h<;>first | (cases h;done) | (injection h with h;subst h;simp [Af];try rfl)
 ·exact⟨rfl,none,0,⟨rfl,rfl⟩,by grind⟩
theorem Fw: ∀ {vs:List Value} {cs:List C},DZ vs=some cs->Ai w G cs vs
 | [],cs,h=>by grind [DZ,Ai]
 | v::vs,cs,h=>by
   unfold DZ at h;split at h
   ·rename_i c cs' h1 h2;injection h with h;subst h;simp only [Ai];exact⟨P7 h1,Fw h2⟩
   ·cases h
theorem gg (v:Value):Ad w G (Me v) v:=by
 unfold Me;split
 ·split
  ·rename_i h;simp only [Ad];exact⟨_,rfl,Fw h⟩
  ·simp only [Ad]
 grind [Ad,P7]
variable {a:Act} {F:Fr} {st:St}
theorem R.ev (h:R F st a w G) (x:Operand):Ad w G (st.ev x) (a.eval x):=by
 cases x with
 | tmp t=>exact h.M_ t
 | const v=>exact gg v
 | func f=>simp [St.ev,Act.eval,Ad,Af]
 | global g=>simp [St.ev,Ad]
theorem R.arg (h:R F st a w G) {g:Bool} (hg:g=true) {x:Operand} (hs:(st.arg g x).1):Ad w G (st.arg g x).2 (a.eval x):=by
 have:=h.ev x;unfold St.arg at *;split at hs
 all_goals simp_all [Ad]
def KO (P:Program) (t:TypeId):Option (Bool×Nat):=
 match P.underlying t,P.info? t with
 | some d,some i=>some (d.isRow,i.size)
 | _,_=>none
def Dj (P:Program) (t:TypeId):Option (TypeId×Nat):=
 match P.underlying t with
 | some (.slice e)=>match P.info? e with
   | some i=>some (e,i.size)
   | none=>none
 | _=>none
def Gd (P:Program) (t:TypeId):Option (Nat×TypeId×Nat):=
 match P.underlying t with
 | some (.array n e)=>match P.info? e with
   | some i=>some (n,e,i.size)
   | none=>none
 | _=>none
def wn (P:Program) (t:TypeId) (f:Nat):Option (Nat×Bool×Nat):=
 match P.underlying t with
 | some (.struct fs)=>match fs[f]? with
   | some x=>match KO P x.type with
     | some (ag,n)=>some (x.offset,ag,n)
     | none=>none
   | none=>none
 | _=>none
def Eb (P:Program) (t:TypeId):Bool:=
 match P.underlying t with
 | some .string =>true
 | _=>false
variable {P:Program} {t:TypeId} {n:Nat}
theorem Dl {ag:Bool} (h:KO P t=some (ag,n)): ∃ d i,P.underlying t=some d/\d.isRow=ag/\P.info? t=some i/\i.size=n:=by grind [KO]
theorem DF {e:TypeId} (h:Dj P t=some (e,n)):P.underlying t=some (.slice e)/\ ∃ i,P.info? e=some i/\i.size=n:=by unfold Dj at h;grind
theorem Mf {e:TypeId} (h:Gd P t=some (k,e,n)):P.underlying t=some (.array k e)/\ ∃ i,P.info? e=some i/\i.size=n:=by unfold Gd at h;grind
structure CY (w w':World):Prop where
 size:w.heap.size<=w'.heap.size
 block: ∀ b,b<w.heap.size->w'.heap[b]? =w.heap[b]?
theorem CY.refl (w:World):CY w w:=⟨le_refl _,fun _ _=>rfl⟩
theorem CY.trans {a b c:World} (h:CY a b) (k:CY b c):CY a c:=
 ⟨le_trans h.size k.size,fun x hx=>(k.block x (lt_of_lt_of_le hx h.size)).trans (h.block x hx)⟩
variable {w':World} {v:Value}
theorem CY.cell (h:CY w w') {p:Addr} (hv:w.cell? p=some v):w'.cell? p=some v:=by have hb:p.block<w.heap.size:=World.block_lt_of_cell? w p hv;rw [World.cell?_of_block (h.block p.block hb)];exact hv
variable {o:Nat}
theorem CY.range (h:CY w w') {vs:List Value} (hv:w.rangeAt b o vs):w'.rangeAt b o vs:=
 fun j v hj=>h.cell (hv j v hj)
def AB.isM (e:AB):Bool:=match e.row with
 | none=>gf e.cs
 | some _=>false
def St.look (st:St) (id:Ah):Option AB:=st.so.find? (fun e=>e.id==id&& !(e.isM||E9 e.id))
def St.ac9 (st:St) (id:Ah):Option AB:=st.so.find? (fun e=>e.id==id&& !e.isM)
theorem S3 {st:St} {id:Ah} {e:AB} (h:st.ac9 id=some e):e∈st.so/\e.id=id:=
 ⟨List.mem_of_find?_eq_some h,by have:=find?_some h;grind⟩
theorem wo {st:St} {id:Ah} {e:AB} (h:st.ac9 id=some e) (hr:e.row=none):gf e.cs=false:=by have:=find?_some h;simp_all [AB.isM]
theorem Bi {id:Ah} {e:AB} (h:st.look id=some e):e∈st.so/\e.id=id:=
 ⟨List.mem_of_find?_eq_some h,by have:=find?_some h;grind⟩
theorem WU {id:Ah} {e:AB} (h:st.look id=some e) (hr:e.row=none):gf e.cs=false:=by have:=find?_some h;simp_all [AB.isM]
theorem Fp {id:Ah} {e:AB} (h:st.look id=some e):E9 id=false:=by have h1:=(Bi h).2;have:=find?_some h;grind
theorem Ba.row {e:AB} (h:Ba w G e) (hnm:e.row=none->gf e.cs=false) (hb:G.y_ e.id=some b):
 ∃ cur T,w.heap[b]? =some (.cells cur T (0,0))/\e.cs.length<=cur.size/\Am w G e.cs b 0:=by
 unfold Ba at h;split at h
 ·rename_i hrn;obtain⟨b',h1,hbx⟩:=h;obtain⟨T,cur,h2,h3,h4⟩:=hbx.cells (hnm hrn);grind
 ·obtain⟨hl,v,h1,h2 | ⟨b',cap,cur,e1,e2,e3,e4,e5,e6,e7⟩⟩:=h
  all_goals simp_all [Nat.mul_le_mul_right]
def toV (ag:Bool) (off n:Nat) (cs:List C):V:=if ag then .agg ((cs.drop off).take n)else .c (cs.getD off .any)
def DJ (P:Program) (t:TypeId) (st:St):V->Prop×V
 | .c (.ptr id off)=>match KO P t,st.ac9 id with
   | some (ag,n),some e=>(off+n<=e.cs.length/\(ag=true\/0<n),toV ag off n e.cs)
   | _,_=>(False, .undef)
 | .c (.acm cs off)=>match KO P t with
   | some (ag,n)=>(off+n<=cs.length/\(ag=true\/0<n),toV ag off n cs)
   | _=>(False, .undef)
 | _=>(False, .undef)
theorem DP {ty:TypeId} {d:TypeDesc} (hu:P.underlying ty=some d) (hd:d.isRow=false) (hc:w.cell? ⟨b,o,none⟩=some v):
 (Instr.loadAt ty (.pointer (some ⟨b,o,none⟩))).run P w= .ok v w:=by
 have aD_:(isAgg ty).run P w= .ok false w:=by unfold isAgg;rw [Sem.run_bind,run_underlying hu w];cases d<;>simp_all
 simp_all [Instr.loadAt,Instr.sureAddr,loadVar]
theorem Xh {P:Program} {w:World} {G:AJ} {cs:List C} {b o off n:Nat} {ty:TypeId} {ag:Bool} (hr:Am w G cs b o) (ht:KO P ty=some (ag,n)) (hn:off+n<=cs.length) (h0:ag=true\/0<n):
 ∃ v,Ad w G (toV ag off n cs) v/\ ∀ w',CY w w'->(Instr.loadAt ty (.pointer (some ⟨b,o+off,none⟩))).run P w'= .ok v w':=by
 obtain⟨d,i,hu,hd,hi,hsz⟩:=Dl ht;obtain⟨vs,h1,h2⟩:=hr.list;unfold toV;cases hag:ag with
 | true=>
   refine⟨.agg ((vs.drop off).take n).toArray,?_,fun w' hw'=>?_⟩
   ·exact⟨_,rfl,by simpa using (h1.drop off).take n⟩
   ·refine run_loadAt_mid w' b (o+off) ty ((vs.drop off).take n) d ?_ hu (by rw [hd,hag]) ?_
    ·intro j v hv;rw [List.getElem?_take]at hv;split at hv
     ·rw [List.getElem?_drop]at hv;have:=(hw'.range h2) _ v hv;grind
     ·cases hv
    ·simp [hi,hsz, <-h1.length];omega
 | false=>
   have EN:0<n:=by grind
   have hlt:off<cs.length:=by omega
   obtain⟨v,hv,hr'⟩:=h1.get off cs[off] (by simp [hlt]);refine⟨v,?_,fun w' hw'=>?_⟩
   ·grind [Ad]
   ·exact DP hu (by rw [hd,hag]) (by simpa using (hw'.range h2) off v hv)
theorem NC {P:Program} {F:Fr} {st:St} {a:Act} {w:World} {G:AJ} (h:R F st a w G) {t:TypeId} {x:V} {u:Value} (hx:Ad w G x u) (hs:(DJ P t st x).1):
 ∃ v,Ad w G (DJ P t st x).2 v/\ ∀ w',CY w w'->(Instr.loadAt t u).run P w'= .ok v w':=by
 unfold DJ at *;split at hs
 ·rename_i id off;split at hs
  ·rename_i ag n e ht he;simp only [Ad,Af]at hx;obtain⟨b,hb,rfl⟩:=hx;obtain⟨hm,hid⟩:=S3 he;obtain⟨cur,T,_,_,Tc⟩:=(h.store e hm).row (wo he) (by rw [hid];exact hb);grind [Xh]
  grind
 ·rename_i cs off;split at hs
  ·rename_i ag n ht;simp only [Ad,Af]at hx;obtain⟨_,b,o,rfl,_,_,Tc⟩:=hx;grind [Xh]
  grind
 grind
end Go.PL
namespace Go.PL
open Go Go.RowKit
def Xi (P:Program) (t:TypeId):Bool:=
 match P.underlying t with
 | some .bool =>true
 | _=>false
def J9 (k:IntKind) (a b:Int):Int:=k.wrap (BitVec.ofInt k.bits a&&& BitVec.ofInt k.bits b).toNat
def bOr (k:IntKind) (a b:Int):Int:=k.wrap (BitVec.ofInt k.bits a||| BitVec.ofInt k.bits b).toNat
def KP (k:IntKind) (a b:Int):Int:=k.wrap (BitVec.ofInt k.bits a ^^^ BitVec.ofInt k.bits b).toNat
def gi (k:IntKind) (a b:Int):Int:=k.wrap (BitVec.ofInt k.bits a&&& ~~~ BitVec.ofInt k.bits b).toNat
def Ke (op:BinOp) (k:IntKind) (a b:Int):Prop×C:=
 match op with
 | .add =>(True, .int k (k.wrap (a+b)))
 | .sub =>(True, .int k (k.wrap (a - b)))
 | .mul =>(True, .int k (k.wrap (a*b)))
 | .quo =>(b ≠ 0, .int k (k.wrap (a.tdiv b)))
 | .rem =>(b ≠ 0, .int k (a.tmod b))
 | .and =>(True, .int k (J9 k a b))
 | .or =>(True, .int k (bOr k a b))
 | .xor =>(True, .int k (KP k a b))
 | .andNot =>(True, .int k (gi k a b))
 | .shl =>(0<=b, .int k (k.wrap (a*2 ^ (min b.toNat k.bits))))
 | .shr =>(0<=b, .int k (a.fdiv (2 ^ (min b.toNat k.bits))))
 | .eql =>(True, .bool (a==b))
 | .neq =>(True, .bool (a != b))
 | .lss =>(True, .bool (decide (a<b)))
 | .leq =>(True, .bool (decide (a<=b)))
 | .gtr =>(True, .bool (decide (b<a)))
 | .geq =>(True, .bool (decide (b<=a)))
def Lu (op:BinOp) (a b:List UInt8):Prop×C:=
 match op with
 | .add =>(a.length+b.length<=maxLen, .str (a++b))
 | .eql =>(True, .bool (a==b))
 | .neq =>(True, .bool (a != b))
 | .lss =>(True, .bool (Op.bytesLess a b))
 | .leq =>(True, .bool (Op.bytesLess a b||a==b))
 | .gtr =>(True, .bool (!(Op.bytesLess a b||a==b)))
 | .geq =>(True, .bool (!Op.bytesLess a b))
 | _=>(False, .any)
def Lv (op:BinOp) (k k':IntKind):Prop:=
 match op with
 | .shl | .shr =>True
 | _=>k=k'
def Kf (P:Program) (t:TypeId):Bool:=
 match P.underlying t with
 | some (.interface _)=>true
 | _=>false
def Lw (P:Program) (t:TypeId):Bool:=
 match P.underlying t with
 | some (.pointer _)=>true
 | _=>false
def ND (op:BinOp) (b:Bool) (s:Prop):Prop×V:=
 match op with
 | .eql =>(s, .c (.bool b))
 | .neq =>(s, .c (.bool !b))
 | _=>(False, .undef)
def BI:Operand->Bool
 | .const _=>true
 | _=>false
def V4 (P:Program) (op:BinOp) (t:TypeId) (k:Bool):V->V->Prop×V
 | .c (.int k a), .c (.int k' b)=>(Lv op k k'/\(Ke op k a b).1, .c (Ke op k a b).2)
 | .c (.str a), .c (.str b)=>((Lu op a b).1, .c (Lu op a b).2)
 | .c (.bool a), .c (.bool b)=>match op with
   | .eql =>(Xi P t=true, .c (.bool (a==b)))
   | .neq =>(Xi P t=true, .c (.bool (a != b)))
   | _=>(False, .undef)
 | .c .aaJ, .c .aaJ =>ND op true (k=true/\Kf P t=true)
 | .c .held, .c .aaJ =>ND op false (Kf P t=true)
 | .c (.ptr _ _), .c .acV =>ND op false (Lw P t=true)
 | .c (.acm _ _), .c .acV =>ND op false (Lw P t=true)
 | .c .acV, .c .acV =>ND op true (Lw P t=true)
 | _,_=>(False, .undef)
variable {P:Program} {t:TypeId}
theorem Q5 (h:Kf P t=true): ∃ ms,P.underlying t=some (.interface ms):=by grind [Kf]
theorem P8 (h:Lw P t=true): ∃ e,P.underlying t=some (.pointer e):=by grind [Lw]
theorem UR (h:Xi P t=true):P.underlying t=some .bool :=by grind [Xi]
theorem Je (h:Eb P t=true):P.underlying t=some .string :=by grind [Eb]
theorem oA (a:List UInt8):(⟨a.toArray⟩:ByteArray).size =a.length:=by simp [ByteArray.size]
def Ix:C->Value
 | .int k n=> .int k n
 | .bool b=> .bool b
 | .str s=> .string ⟨s.toArray⟩
 | .acV => .pointer none
 | .aaJ => .nilIface
 | .fn f=> .func (.func f) #[] #[]
 | _=>Go.undef
def C.flat:C->Bool
 | .int .. | .bool _ | .str _ | .acV | .aaJ | .fn _=>true
 | _=>false
variable {w:World} {G:AJ} {v:Value}
theorem AZ {c:C} (hc:c.flat=true):Af w G c v↔v=Ix c:=by cases c<;>simp_all [C.flat,Af,Ix]
variable {op:BinOp} {ox oy:Operand}
theorem dv {k k':IntKind} {x y:Int} (h1:Lv op k k') (h2:(Ke op k x y).1) (w:World):
 (do eqGuard op t ox oy (.int k x) (.int k' y);binOp op t (.int k x) (.int k' y)).run P w= .ok (Ix (Ke op k x y).2) w/\(Ke op k x y).2.flat =true:=by
 refine⟨?_,by cases op<;>rfl⟩;cases op<;>simp only [Lv,Ke]at h1 h2<;>(try subst h1)<;>simp only [Ke,Ix]<;>
  first
   | (simp [eqGuard,binOp,Op.intArith,Op.intDiv,Op.intBits,Op.intCmp,h2,J9,bOr,KP,gi];done)
   | (have h3: ¬y<0:=by omega
      simp [eqGuard,binOp,Op.shift,h3])
theorem dw {x y:List UInt8} (h2:(Lu op x y).1) (w:World):
 (do eqGuard op t ox oy (.string ⟨x.toArray⟩) (.string ⟨y.toArray⟩);binOp op t (.string ⟨x.toArray⟩) (.string ⟨y.toArray⟩)).run P w= .ok (Ix (Lu op x y).2) w/\(Lu op x y).2.flat =true:=by
 cases op<;>simp only [Lu]at h2<;>refine⟨?_,rfl⟩<;>simp only [Lu,Ix]
 case add=>
  have h3: ¬((x.length+y.length:Nat):Int)>IntKind.i64.max:=by
   have:IntKind.i64.max=9223372036854775807:=by decide
   grind [maxLen]
  simp only [eqGuard,binOp,Op.stringOp,oA];rw [if_neg h3];have e:(⟨x.toArray⟩++⟨y.toArray⟩:ByteArray)=⟨(x++y).toArray⟩:=by apply ByteArray.ext;simp
  simp [e]
 all_goals simp_all [eqGuard,binOp,Op.stringOp,bne]
variable {u:Value}
theorem HH {b:Bool} {s:Prop} (hs:(ND op b s).1) (avP:(∀ k a,u ≠ .int k a)/\(∀ k a,u ≠ .float k a)/\(∀ k a c,u ≠ .complex k a c)/\(∀ a,u ≠ .string a))
 (hg:s-> ∀ w',(eqGuard op t ox oy u v).run P w'= .ok () w') (he:s-> ∀ w',(Op.equal t u v).run P w'= .ok b w'):
 ∃ r,Ad w G (ND op b s).2 r/\ ∀ w',(do eqGuard op t ox oy u v;binOp op t u v).run P w'= .ok r w':=by
 unfold ND at *;obtain⟨h1,h2,h3,h4⟩:=avP;split at hs
 ·refine⟨.bool b,(AZ rfl).2 rfl,fun w'=>?_⟩;simp_all [binOp]
 ·refine⟨.bool !b,(AZ rfl).2 rfl,fun w'=>?_⟩;simp_all [binOp]
 grind
variable {x:Value} {ms:Array (String×TypeId)}
theorem tQ (d:Nat) {u:TypeId} (h:P.underlying t=some (.interface ms)) (w:World):(Op.equalIn (d+1) t (.iface u x) .nilIface).run P w= .ok false w:=by simp [Op.equalIn,run_underlying h]
theorem Aac (d:Nat) (h:P.underlying t=some (.interface ms)) (w:World):(Op.equalIn (d+1) t .nilIface .nilIface).run P w= .ok true w:=by simp [Op.equalIn,run_underlying h]
variable {a:Addr}
theorem Aad (d:Nat) {e:TypeId} (h:P.underlying t=some (.pointer e)) (w:World):(Op.equalIn (d+1) t (.pointer (some a)) (.pointer none)).run P w= .ok false w:=by simp [Op.equalIn,run_underlying h]
theorem Aae (d:Nat) {e:TypeId} (h:P.underlying t=some (.pointer e)) (w:World):(Op.equalIn (d+1) t (.pointer none) (.pointer none)).run P w= .ok true w:=by simp [Op.equalIn,run_underlying h]
theorem Xj {u:TypeId} (h:P.underlying t=some (.interface ms)) (w:World):(Op.equal t (.iface u x) .nilIface).run P w= .ok false w:=tQ 9999 h w
theorem gn (h:P.underlying t=some (.interface ms)) (w:World):(Op.equal t .nilIface .nilIface).run P w= .ok true w:=Aac 9999 h w
theorem Q6 {e:TypeId} (h:P.underlying t=some (.pointer e)) (w:World):(Op.equal t (.pointer (some a)) (.pointer none)).run P w= .ok false w:=Aad 9999 h w
theorem gp {e:TypeId} (h:P.underlying t=some (.pointer e)) (w:World):(Op.equal t (.pointer none) (.pointer none)).run P w= .ok true w:=Aae 9999 h w
theorem oB {x y:V} (hx:Ad w G x u) (hy:Ad w G y v) (hs:(V4 P op t (BI ox||BI oy) x y).1):
 ∃ r,Ad w G (V4 P op t (BI ox||BI oy) x y).2 r/\ ∀ w',(do eqGuard op t ox oy u v;binOp op t u v).run P w'= .ok r w':=by
 unfold V4 at *;split at hs
 ·simp only [Ad,Af]at hx hy;subst hx hy;exact⟨_,by simp only [Ad];exact(AZ (dv (P:=P) (t:=t) (ox:=ox) (oy:=oy) hs.1 hs.2 w).2).2 rfl,fun w'=>(dv hs.1 hs.2 w').1⟩
 ·simp only [Ad,Af]at hx hy;subst hx hy;exact⟨_,by simp only [Ad];exact(AZ (dw (P:=P) (t:=t) (ox:=ox) (oy:=oy) hs w).2).2 rfl,fun w'=>(dw hs w').1⟩
 ·simp only [Ad,Af]at hx hy;subst hx hy;split at hs
  ·exact⟨_,(AZ rfl).2 rfl,(by grind [eqGuard,run_eql_bool,UR,Ix])⟩
  ·exact⟨_,(AZ rfl).2 rfl,(by grind [eqGuard,run_neq_bool,UR,Ix])⟩
  grind
 ·simp only [Ad,Af]at hx hy;subst hx hy;refine HH hs (by simp) (fun q w'=>?_) (fun q w'=>?_)
  ·have hk:=q.1;cases ox<;>cases oy<;>simp_all [BI,eqGuard]<;>(try (split<;>rfl))
  grind [Q5,gn]
 ·simp only [Ad,Af]at hx hy;obtain⟨t',x',rfl⟩:=hx;subst hy;refine HH hs (by simp) (fun q w'=>?_) (fun q w'=>?_)
  ·simp_all [eqGuard]
  grind [Q5,Xj]
 ·simp only [Ad,Af]at hx hy;obtain⟨b,_,rfl⟩:=hx;subst hy;refine HH hs (by simp) (fun q w'=>?_) (fun q w'=>?_)
  ·simp_all [eqGuard]
  grind [P8,Q6]
 ·simp only [Ad,Af]at hx hy;obtain⟨_,b,o,rfl,_⟩:=hx;subst hy;refine HH hs (by simp) (fun q w'=>?_) (fun q w'=>?_)
  ·simp_all [eqGuard]
  grind [P8,Q6]
 ·simp only [Ad,Af]at hx hy;subst hx hy;refine HH hs (by simp) (fun q w'=>?_) (fun q w'=>?_)
  ·simp_all [eqGuard]
  grind [P8,gp]
 grind
end Go.PL
namespace Go.PL
open Go Go.RowKit
abbrev no:Prop×V:=(False, .undef)
def zZ (op:UnOp):V->Prop×V
 | .c (.int k n)=>match op with
   | .neg =>(True, .c (.int k (k.wrap (0 - n))))
   | .xor =>(True, .c (.int k (KP k (if k.signed then -1 else k.max) n)))
   | _=>no
 | .c (.bool b)=>match op with
   | .not =>(True, .c (.bool !b))
   | _=>no
 | _=>no
variable {P:Program} {x:V} {u:Value} {w:World} {G:AJ}
theorem dx {op:UnOp} (hx:Ad w G x u) (hs:(zZ op x).1):
 ∃ r,Ad w G (zZ op x).2 r/\ ∀ w',(Op.unary op u).run P w'= .ok r w':=by
 unfold zZ at *;split at hs
 ·simp only [Ad,Af]at hx;subst hx;split at hs
  ·exact⟨_,(AZ rfl).2 rfl,(by simp_all [Op.unary,Op.intArith,Ix])⟩
  ·exact⟨_,(AZ rfl).2 rfl,(by simp_all [Op.unary,Op.intBits,Ix,KP])⟩
  grind
 ·simp only [Ad,Af]at hx;subst hx;split at hs
  ·exact⟨_,(AZ rfl).2 rfl,fun w'=>by simp [Op.unary,Ix]⟩
  grind
 grind
def kf (P:Program) (t:TypeId):Option IntKind:=
 match P.underlying t with
 | some (.int k)=>some k
 | _=>none
variable {t:TypeId}
theorem oC {k:IntKind} (h:kf P t=some k):P.underlying t=some (.int k):=by grind [kf]
def Aaf (P:Program) (t:TypeId):Bool:=(P.underlying t).isSome
def bytesOf:List C->Option (List UInt8)
 | []=>some []
 | .int .u8 n::cs=>match bytesOf cs with
   | some bs=>if 0<=n/\n<256 then some (UInt8.ofNat n.toNat::bs)else none
   | none=>none
 | _=>none
def Mg:List C->List UInt8
 | []=>[]
 | .int _ n::cs=>UInt8.ofNat n.toNat::Mg cs
 | _::cs=>Mg cs
def Kg:List C->Prop
 | []=>True
 | .int .u8 n::cs=>(0<=n/\n<256)/\Kg cs
 | _=>False
theorem Xk: ∀ {cs:List C},Kg cs->bytesOf cs=some (Mg cs)
 | [],_=>rfl
 | c::cs,h=>by
   unfold Kg at h;split at h
   ·cases ‹_=([]:List C)›
   ·rename_i n cs' he;injection he with h1 h2;subst h1 h2;simp [bytesOf,Xk h.2,h.1,Mg]
   ·exact h.elim
def HI (P:Program) (t:TypeId):Bool:=
 match P.underlying t with
 | some (.slice e)=>match P.underlying e with
   | some (.int .u8)=>true
   | _=>false
 | _=>false
def Kh (P:Program) (src dst:TypeId) (st:St):V->Prop×V
 | .c (.int _ n)=>match kf P dst with
   | some k=>(Aaf P src=true, .c (.int k (k.wrap n)))
   | none=>no
 | .c (.str s)=>(Eb P src=true/\Eb P dst=true, .c (.str s))
 | .c (.n_ id)=>match st.look id with
   | some e=>match e.row with
     | some (_,n,_)=>((HI P src=true/\Eb P dst=true)/\n=1/\Kg e.cs, .c (.str (Mg e.cs)))
     | _=>no
   | none=>no
 | _=>no
theorem S4 (h:HI P t=true): ∃ e,P.underlying t=some (.slice e)/\P.underlying e=some (.int .u8):=by grind [HI]
theorem Q7: ∀ {cs:List C} {bs:List UInt8} {vs:List Value},bytesOf cs=some bs->Ai w G cs vs->vs=bs.map (fun b=>Value.int .u8 b.toNat)
 | [],bs,vs,h,hr=>by simp [bytesOf]at h;subst h;cases vs<;>simp_all [Ai]
 | c::cs,bs,vs,h,hr=>by
   cases vs with
   | nil=>simp [Ai]at hr
   | cons v vs=>
     simp only [Ai]at hr;unfold bytesOf at h;split at h
     ·grind
     ·rename_i n cs' he;injection he with h1 h2;subst h1 h2;split at h
      ·rename_i bs' hb;split at h
       ·rename_i hn;injection h with h;subst h;have:=Q7 hb hr.2;simp only [Af]at hr;rw [hr.1,this];simp only [map_cons,List.cons.injEq,and_true,Value.int.injEq,true_and];have:(UInt8.ofNat n.toNat).toNat =n.toNat:=by simp;omega
        grind
       ·cases h
      ·cases h
     ·cases h
variable {F:Fr} {st:St} {a:Act}
theorem kg (h:R F st a w G) {src dst:TypeId} (hx:Ad w G x u) (hs:(Kh P src dst st x).1):
 ∃ r,Ad w G (Kh P src dst st x).2 r/\ ∀ w',CY w w'->(convert src dst u).run P w'= .ok r w':=by
 unfold Kh at *;split at hs
 ·simp only [Ad,Af]at hx;subst hx;split at hs
  ·rename_i k hk;unfold Aaf at hs;cases hu:P.underlying src with
   | none=>grind
   | some d=>exact⟨_,(AZ rfl).2 rfl,(by simp_all [convert,run_underlying,oC,Conv.intToInt,Ix])⟩
  grind
 ·simp only [Ad,Af]at hx;subst hx;exact⟨_,(AZ rfl).2 rfl,(by simp_all [convert,run_underlying,Je,Ix])⟩
 ·rename_i id;split at hs
  ·rename_i e he;split at hs
   ·rename_i E n len Tc;obtain⟨hs,rfl,hbs⟩:=hs;have hb:=Xk hbs;generalize Mg e.cs=bs at *;obtain⟨t,hs1,hs2⟩:=S4 hs.1;have hd:=Je hs.2;obtain⟨hm,hid⟩:=Bi he;have hE:=h.store e hm;unfold Ba at hE;rw [Tc]at hE;obtain⟨hl,v,aaK,apn⟩:=hE;simp only [Ad,Af]at hx;rw [hid]at aaK;rw [aaK]at hx;obtain⟨hx,_⟩:=hx;injection hx with hx;subst hx;refine⟨.string ⟨bs.toArray⟩,(AZ rfl).2 rfl,fun w' hw'=>?_⟩;rcases apn with ⟨p,rfl,h0,_⟩ | ⟨b,cap,cur,rfl,_,_,_,_,_,hr⟩
    ·have:e.cs=[]:=by grind
     rw [this]at hb;simp [bytesOf]at hb;subst hb;cases p with
     | none=>exact run_convert_bytes_nil w' src t hs1 hs2 0 0 dst hd
     | some p=>exact run_convert_bytes_back w' src dst t p 0 [] hs1 hs2 hd (fun j hj=>by simp at hj)
    ·obtain⟨vs,h1,h2⟩:=hr.list;have hv:=Q7 hb h1;have hlen:bs.length=len:=by have:=h1.length;grind
     rw [<-hlen];refine run_convert_bytes_back w' src dst t ⟨b,0,none⟩ cap bs hs1 hs2 hd ?_;intro j hj;rw [Addr.add_mid];simpa using hw'.range h2 j (.int .u8 bs[j].toNat) (by grind)
   grind
  grind
 grind
variable {f o n:Nat} {ag:Bool}
theorem kh (h:wn P t f=some (o,ag,n)):
 ∃ fs x,P.underlying t=some (.struct fs)/\fs[f]? =some x/\x.offset=o/\KO P x.type=some (ag,n):=by
 unfold wn at h;grind
def BV (P:Program) (s:TypeId) (f:Nat):V->Prop×V
 | .c (.ptr id off)=>match wn P s f with
   | some (o,_,n)=>(0<n, .c (.ptr id (off+o)))
   | none=>no
 | .c (.acm cs off)=>match wn P s f with
   | some (o,_,n)=>(0<n, .c (.acm cs (off+o)))
   | none=>no
 | _=>no
variable {s:TypeId}
theorem agN (h:wn P s f=some (o,ag,n)) (hn:0<n) (b off:Nat) (w:World):
 (Instr.fieldAt s (.pointer (some ⟨b,off,none⟩)) f).run P w= .ok (.pointer (some ⟨b,off+o,none⟩)) w:=by
 obtain⟨fs,x,h1,h2,h3,h4⟩:=kh h;obtain⟨d,i,hu,_,hi,hsz⟩:=Dl h4;simp only [Instr.fieldAt,Sem.run_bind,run_underlying h1,Result.andThen_ok,h2,Instr.sureAddr,Sem.run_pure,fieldPlace,sizeOf,typeInfo];have: ¬i.size=0:=by omega
 simp_all [Addr.add_mid]
theorem Lx (hx:Ad w G x u) (hs:(BV P s f x).1):
 ∃ r,Ad w G (BV P s f x).2 r/\ ∀ w',(Instr.fieldAt s u f).run P w'= .ok r w':=by
 unfold BV at *;split at hs
 ·split at hs
  ·rename_i o ag n hf;simp only [Ad,Af]at hx ⊢;obtain⟨b,hb,rfl⟩:=hx;exact⟨_,⟨b,hb,rfl⟩,fun w'=>agN hf hs b _ w'⟩
  grind
 ·split at hs
  ·rename_i o ag n hf;simp only [Ad,Af]at hx ⊢;obtain⟨hp,b,o',rfl,h1,h2,h3⟩:=hx;exact⟨_,⟨hp,b,o',rfl,h1,h2,h3⟩,fun w'=>by rw [agN hf hs b _ w',Nat.add_assoc]⟩
  grind
 grind
theorem adl (ht:KO P t=some (ag,n)) {cs:List C} {arr:Array Value} (h:Ai w G cs arr.toList) {off:Nat} (hb:off+n<=cs.length) (h0:ag=true\/0<n):
 ∃ r,Ad w G (toV ag off n cs) r/\ ∀ w',(part t arr off).run P w'= .ok r w':=by
 obtain⟨d,i,hu,hd,hi,hsz⟩:=Dl ht;have aD_: ∀ w',(isAgg t).run P w'= .ok ag w':=by intro w';unfold isAgg;rw [Sem.run_bind,run_underlying hu w'];cases d<;>simp_all
 have hlen:=h.length;unfold toV;cases hag:ag with
 | true=>
   refine⟨.agg (arr.extract off (off+n)),⟨_,rfl,?_⟩,fun w'=>?_⟩
   ·have:=(h.drop off).take n;simp_all
   simp_all [part,sizeOf,typeInfo]
 | false=>
   have EN:0<n:=by grind
   have hlt:off<cs.length:=by omega
   obtain⟨v,hv,hr⟩:=h.get off cs[off] (by simp [hlt]);refine⟨v,by grind [Ad],fun w'=>?_⟩;simp_all [part]
def Jf (P:Program) (t:TypeId) (f:Nat):V->Prop×V
 | .agg cs=>match wn P t f with
   | some (o,ag,n)=>(o+n<=cs.length/\(ag=true\/0<n),toV ag o n cs)
   | none=>no
 | _=>no
theorem gq (hx:Ad w G x u) (hs:(Jf P t f x).1):
 ∃ r,Ad w G (Jf P t f x).2 r/\ ∀ w',(Instr.field t u f).run P w'= .ok r w':=by
 unfold Jf at *;split at hs
 ·split at hs
  ·rename_i o ag n hf;simp only [Ad]at hx;obtain⟨arr,rfl,hr⟩:=hx;obtain⟨fs,y,h1,h2,h3,h4⟩:=kh hf;simp_all [adl,Instr.field,run_underlying,asAgg]
  grind
 grind
def B8 (P:Program) (t:TypeId) (st:St) (x y:V):Prop×V:=
 match y with
 | .c (.int _ i)=>match x with
   | .c (.sl len cs)=>match Dj P t with
     | some (_,n)=>(0<=i/\i<len, .c (.acm cs (i.toNat*n)))
     | none=>no
   | .c (.n_ id)=>match Dj P t,st.ac9 id with
     | some (_,n),some e=>match e.row with
       | some (_,_,len)=>(0<=i/\i<len, .c (.ptr id (i.toNat*n)))
       | none=>no
     | _,_=>no
   | .c (.bsl id off len)=>match Dj P t with
     | some (_,n)=>(0<=i/\i<len, .c (.ptr id (off+i.toNat*n)))
     | none=>no
   | .c (.ptr id off)=>match Gd P t with
     | some (k,_,n)=>(0<=i/\i<k, .c (.ptr id (off+i.toNat*n)))
     | none=>no
   | .c (.acm cs off)=>match Gd P t with
     | some (k,_,n)=>(0<=i/\i<k, .c (.acm cs (off+i.toNat*n)))
     | none=>no
   | _=>no
 | _=>no
theorem Ec {e:TypeId} (h:Dj P t=some (e,n)) (b o len cap:Nat) (k:IntKind) (i:Int) (h0:0<=i) (h1:i<len) (w:World):
 (Instr.indexAt t (.slice (some ⟨b,o,none⟩) len cap) (.int k i)).run P w= .ok (.pointer (some ⟨b,o+i.toNat*n,none⟩)) w:=by
 obtain⟨hu,inf,hi,hsz⟩:=DF h;simp [Instr.indexAt,asIntOf,Sem.run_bind,run_underlying hu,h0,h1,sizeOf,typeInfo,program,Sem.run,hi,hsz,Addr.add_mid]
theorem Jg {e:TypeId} {m:Nat} (h:Gd P t=some (m,e,n)) (b o:Nat) (k:IntKind) (i:Int) (h0:0<=i) (h1:i<m) (w:World):
 (Instr.indexAt t (.pointer (some ⟨b,o,none⟩)) (.int k i)).run P w= .ok (.pointer (some ⟨b,o+i.toNat*n,none⟩)) w:=by
 obtain⟨hu,inf,hi,hsz⟩:=Mf h;simp [Instr.indexAt,asIntOf,Sem.run_bind,run_underlying hu,h0,h1,sizeOf,typeInfo,program,Sem.run,hi,hsz,Addr.add_mid,Instr.sureAddr]
variable {y:V} {v:Value}
theorem Ly (h:R F st a w G) (hx:Ad w G x u) (hy:Ad w G y v) (hs:(B8 P t st x y).1):
 ∃ r,Ad w G (B8 P t st x y).2 r/\ ∀ w',(Instr.indexAt t u v).run P w'= .ok r w':=by
 unfold B8 at *;split at hs
 ·rename_i k i;simp only [Ad,Af]at hy;subst hy;split at hs
  ·split at hs
   ·rename_i len cs e n hse;simp only [Ad,Af]at hx ⊢;obtain⟨hp,ad,cap,rfl,_,_,_,h0 | ⟨b,o,rfl,h1,h2,h3⟩⟩:=hx
    ·omega
    ·exact⟨_,⟨hp,b,o,rfl,h1,h2,h3⟩,(by grind [Ec])⟩
   grind
  ·rename_i id;split at hs
   ·rename_i e n en hse hlk;split at hs
    ·rename_i E n' len Tc;obtain⟨hm,hid⟩:=S3 hlk;have hE:=h.store en hm;unfold Ba at hE;rw [Tc]at hE;obtain⟨hl,v,aaK,apn⟩:=hE;simp only [Ad,Af]at hx ⊢;rw [hid]at aaK;rw [aaK]at hx;obtain⟨hx,_⟩:=hx;injection hx with hx;subst hx;rcases apn with ⟨_,h0,_⟩ | ⟨b,cap,cur,rfl,hb,_⟩
     ·omega
     ·refine⟨_,⟨b,by rw [<-hid];exact hb,rfl⟩,fun w'=>?_⟩;simpa using Ec hse b 0 len cap k i hs.1 hs.2 w'
    grind
   grind
  ·rename_i id off len;split at hs
   ·rename_i e n hse;simp only [Ad,Af]at hx ⊢;obtain⟨b,cap,o,hb,rfl,hc,_,ho⟩:=hx;have ho:o=off:=(by grind);subst ho;exact⟨_,⟨b,hb,rfl⟩,(by grind [Ec])⟩
   grind
  ·split at hs
   ·rename_i m e n hae;simp only [Ad,Af]at hx ⊢;obtain⟨b,hb,rfl⟩:=hx;exact⟨_,⟨b,hb,rfl⟩,(by grind [Jg])⟩
   grind
  ·split at hs
   ·rename_i m e n hae;simp only [Ad,Af]at hx ⊢;obtain⟨hp,b,o,rfl,h1,h2,h3⟩:=hx;exact⟨_,⟨hp,b,o,rfl,h1,h2,h3⟩,(by grind [Jg])⟩
   grind
  grind
 grind
def Ih (P:Program) (t:TypeId) (x y:V):Prop×V:=
 match y with
 | .c (.int _ i)=>match x with
   | .c (.str s)=>(Eb P t=true/\0<=i/\i<s.length, .c (.int .u8 (s.getD i.toNat 0).toNat))
   | .agg cs=>match Gd P t with
     | some (k,e,n)=>match KO P e with
       | some (ag,_)=>(0<=i/\i<k/\i.toNat*n+n<=cs.length/\0<n,toV ag (i.toNat*n) n cs)
       | none=>no
     | none=>no
   | _=>no
 | _=>no
theorem gu (hx:Ad w G x u) (hy:Ad w G y v) (hs:(Ih P t x y).1):
 ∃ r,Ad w G (Ih P t x y).2 r/\ ∀ w',(Instr.index t u v).run P w'= .ok r w':=by
 unfold Ih at *;split at hs
 ·rename_i k i;simp only [Ad,Af]at hy;subst hy;split at hs
  ·simp only [Ad,Af]at hx;subst hx;obtain⟨h1,h2,h3⟩:=hs;rename_i s;refine⟨_,(AZ rfl).2 rfl,fun w'=>?_⟩;have hlt:i.toNat<s.length:=by omega
   have hg:(⟨s.toArray⟩:ByteArray)[i.toNat]? =some s[i.toNat]:=by rw [getElem?_pos _ _ (by simpa [ByteArray.size] using hlt)];rfl
   simp_all [Instr.index,asIntOf,run_underlying,Je,Ix]
  ·split at hs
   ·rename_i m e n hae;split at hs
    ·rename_i ag n' hts;obtain⟨hu,inf,hi,hsz⟩:=Mf hae;obtain⟨d,aLa,hu',hd,hi',aLt⟩:=Dl hts;rw [hi]at hi';injection hi' with hi';subst hi';have hnn:n'=n:=by omega
     subst hnn;simp only [Ad]at hx;obtain⟨arr,rfl,hr⟩:=hx;obtain⟨r,q1,q2⟩:=adl hts hr hs.2.2.1 (.inr hs.2.2.2);simp_all [Instr.index,asIntOf,run_underlying,sizeOf,typeInfo]
    grind
   grind
  grind
 grind
end Go.PL
namespace Go.PL
open Go Go.RowKit
def bK (len:Nat) (lo hi:Option V):Option (Int×Int):=
 match lo,hi with
 | none,none=>some (0,len)
 | some (.c (.int _ l)),none=>some (l,len)
 | none,some (.c (.int _ h))=>some (0,h)
 | some (.c (.int _ l)),some (.c (.int _ h))=>some (l,h)
 | _,_=>none
def GY (P:Program) (t:TypeId) (x:V) (lo hi:Option V):Prop×V:=
 match x with
 | .c (.str s)=>match bK s.length lo hi with
   | some (l,h)=>(Eb P t=true/\0<=l/\l<=h/\h<=s.length, .c (.str ((s.drop l.toNat).take (h.toNat - l.toNat))))
   | none=>no
 | .c (.sl len cs)=>match Dj P t,bK len lo hi with
   | some (_,n),some (l,h)=>(0<=l/\l<=h/\h<=len/\cs.length=len*n, .c (.sl (h.toNat - l.toNat) ((cs.drop (l.toNat*n)).take ((h.toNat - l.toNat)*n))))
   | _,_=>no
 | .c (.ptr id off)=>match Gd P t,bK (match Gd P t with
  | some (k,_,_)=>k
  | none=>0) lo hi with
  | some (k,_,n),some (l,h)=>(0<=l/\l<k/\l<=h/\h<=k, .c (.bsl id (off+l.toNat*n) (h.toNat - l.toNat)))
  | _,_=>no
 | _=>no
def Jh (w:World) (G:AJ):Option V->Option Value->Prop
 | none,none=>True
 | some x,some v=>Ad w G x v
 | _,_=>False
variable {P:Program}
theorem aac (w:World) (k:IntKind) (i:Int) (y:Nat) (code:BoundsCode) (h0:0<=i) (h1:i<=y):
 (Instr.sliceBound (.int k i) y code).run P w= .ok i.toNat w:=by
 simp_all [Instr.sliceBound,asIntOf]
variable {w:World} {G:AJ} {len:Nat} {lo hi:Option V} {lv hv:Option Value}
theorem Xl {cap:Nat} {l h:Int} (sl:Bool) (hb:bK len lo hi=some (l,h)) (h1:Jh w G lo lv) (h2:Jh w G hi hv)
 (q1:0<=l) (q2:l<=h) (q3:h<=len) (q4:len<=cap): ∀ w',(Instr.sliceBounds sl len cap lv hv none).run P w'= .ok (l.toNat,h.toNat,cap) w':=by
 intro w';unfold bK at hb;split at hb
 ·simp only [injEq,Prod.mk.injEq]at hb;obtain⟨rfl,rfl⟩:=hb;cases lv<;>cases hv<;>simp only [Jh]at h1 h2;simp [Instr.sliceBounds]
 ·rename_i k1 l1;simp only [injEq,Prod.mk.injEq]at hb;obtain⟨rfl,rfl⟩:=hb;cases lv<;>cases hv<;>simp only [Jh,Ad,Af]at h1 h2;simp_all [aac,Instr.sliceBounds]
 ·rename_i k2 l2;simp only [injEq,Prod.mk.injEq]at hb;obtain⟨rfl,rfl⟩:=hb;cases lv<;>cases hv<;>simp only [Jh,Ad,Af]at h1 h2;subst h2;have e2:=fun code=>aac (P:=P) w' k2 l2 cap code (by omega) (by omega);simp [Instr.sliceBounds,e2]
 ·rename_i k1 l1 k2 l2;simp only [injEq,Prod.mk.injEq]at hb;obtain⟨rfl,rfl⟩:=hb;cases lv<;>cases hv<;>simp only [Jh,Ad,Af]at h1 h2;subst h1 h2;have e1:=fun code=>aac (P:=P) w' k1 l1 l2.toNat code q1 (by omega);have e2:=fun code=>aac (P:=P) w' k2 l2 cap code (by omega) (by omega);simp_all [Instr.sliceBounds]
 ·cases hb
variable {t:TypeId} {x:V} {u:Value}
theorem gw (hx:Ad w G x u) (h1:Jh w G lo lv) (h2:Jh w G hi hv) (hs:(GY P t x lo hi).1):
 ∃ r,Ad w G (GY P t x lo hi).2 r/\ ∀ w',(Instr.sliceAt t u lv hv none).run P w'= .ok r w':=by
 unfold GY at *;split at hs
 ·rename_i s;split at hs
  ·rename_i l h hb;simp only [Ad,Af]at hx;subst hx;obtain⟨q0,q1,q2,q3⟩:=hs;refine⟨_,(AZ rfl).2 rfl,fun w'=>?_⟩;have e:(⟨s.toArray⟩:ByteArray).extract l.toNat h.toNat=⟨((s.drop l.toNat).take (h.toNat - l.toNat)).toArray⟩:=by apply ByteArray.ext;simp_all
   have:=Xl (P:=P) (w:=w) (G:=G) false (len:=s.length) (cap:=s.length) hb h1 h2 q1 q2 q3 (le_refl _) w';simp_all [Instr.sliceAt,Instr.slice,run_underlying,Je,oA,Ix]
  grind
 ·rename_i len cs;split at hs
  ·rename_i e n l h hse hb;obtain⟨q1,q2,q3,q4⟩:=hs;obtain⟨hu,inf,hi',hsz⟩:=DF hse;simp only [Ad,Af]at hx ⊢;obtain⟨hp,ad,cap,rfl,c1,c2,c3,c4⟩:=hx;have hr:=fun w'=>Xl (P:=P) (w:=w) (G:=G) true (len:=len) (cap:=cap) hb h1 h2 q1 q2 q3 c1 w';refine⟨.slice (if cap=l.toNat then ad else ad.map (·.add (l.toNat*n))) (h.toNat - l.toNat) (cap - l.toNat),⟨Mc _ (Md _ hp),_,_,rfl,by omega,by omega,?_,?_⟩,fun w'=>?_⟩
   ·simp_all
   ·by_cases hz:h.toNat - l.toNat=0
    ·grind
    ·right;rcases c4 with c4 | ⟨b,o,rfl,k1,k2,k3⟩
     ·omega
     ·have hne: ¬cap=l.toNat:=by omega
      refine⟨b,o+l.toNat*n,?_,k1,k2,?_⟩
      ·simp_all [Addr.add_mid]
      ·exact(k3.drop (l.toNat*n)).take _
   simp_all [Instr.sliceAt,Instr.slice,run_underlying,sizeOf,typeInfo]
  grind
 ·rename_i id off;split at hs
  ·rename_i k e n l h hae hb;obtain⟨q1,q2,q3,q4⟩:=hs;obtain⟨hu,inf,hi',hsz⟩:=Mf hae;simp only [hae]at hb;simp only [Ad,Af]at hx ⊢;obtain⟨b,hb1,rfl⟩:=hx;have hr:=fun sl w'=>Xl (P:=P) (w:=w) (G:=G) sl (len:=k) (cap:=k) hb h1 h2 q1 q3 q4 (le_refl _) w';have hne: ¬k=l.toNat:=by omega
   refine⟨.slice (some (if k=l.toNat then⟨b,off,none⟩else(⟨b,off,none⟩:Addr).add (l.toNat*n))) (h.toNat - l.toNat) (k - l.toNat),⟨b,k - l.toNat,off+l.toNat*n,hb1,?_,by omega,le_refl _, .inr rfl⟩,fun w'=>?_⟩
   ·simp_all [Addr.add_mid]
   simp_all [Instr.sliceAt,Instr.sureAddr,run_underlying,sizeOf,typeInfo]
  grind
 grind
def D6 (P:Program) (t:TypeId):Bool:=
 match P.underlying t with
 | some (.slice _)=>true
 | _=>false
def P9 (P:Program) (t:TypeId) (st:St) (x:V):Prop×V:=
 match x with
 | .c (.str s)=>(Eb P t=true, .c (.int .i64 s.length))
 | .c (.sl len _)=>(D6 P t=true, .c (.int .i64 len))
 | .c (.n_ id)=>match st.ac9 id with
   | some e=>match e.row with
     | some (_,_,len)=>(D6 P t=true, .c (.int .i64 len))
     | none=>no
   | none=>no
 | .c (.bsl _ _ len)=>(D6 P t=true, .c (.int .i64 len))
 | .c (.rsl _ _ _ len)=>(D6 P t=true, .c (.int .i64 len))
 | _=>match Gd P t with
   | some (k,_,_)=>(True, .c (.int .i64 k))
   | none=>no
theorem EQ (h:D6 P t=true): ∃ e,P.underlying t=some (.slice e):=by grind [D6]
variable {F:Fr} {st:St} {a:Act}
theorem tR (h:R F st a w G) {id:Ah} {e:AB} (he:st.ac9 id=some e) {E n:Nat} (Tc:e.row=some (E,n,len)) (hx:Af w G (.n_ id) u):
 ∃ ad cap,u= .slice ad len cap:=by
 obtain⟨hm,hid⟩:=S3 he;have hE:=h.store e hm;unfold Ba at hE;rw [Tc]at hE;obtain⟨hl,v,aaK,apn⟩:=hE;simp only [Af]at hx;grind
variable {ty:TypeId}
theorem oD (h:R F st a w G) (hx:Ad w G x u) (hs:(P9 P t st x).1):
 ∃ r,Ad w G (P9 P t st x).2 r/\ ∀ w',(Builtin.len_ #[t] ty #[u]).run P w'= .ok r w':=by
 unfold P9 at *;split at hs
 ·simp only [Ad,Af]at hx;subst hx;exact⟨_,(AZ rfl).2 rfl,(by simp_all [Builtin.len_,run_underlying,Je,goInt,oA,Ix])⟩
 ·obtain⟨e,he⟩:=EQ hs;simp only [Ad,Af]at hx;obtain⟨_,ad,cap,rfl,_⟩:=hx;exact⟨_,(AZ rfl).2 rfl,(by simp_all [Builtin.len_,run_underlying,goInt,Ix])⟩
 ·split at hs
  ·rename_i e hlk;split at hs
   ·rename_i E n len Tc;obtain⟨el,he⟩:=EQ hs;obtain⟨ad,cap,rfl⟩:=tR h hlk Tc (by simpa [Ad] using hx);exact⟨_,(AZ rfl).2 rfl,(by simp_all [Builtin.len_,run_underlying,goInt,Ix])⟩
   grind
  grind
 ·obtain⟨e,he⟩:=EQ hs;simp only [Ad,Af]at hx;obtain⟨b,cap,o,hb,rfl,hc,_⟩:=hx;exact⟨_,(AZ rfl).2 rfl,(by simp_all [Builtin.len_,run_underlying,goInt,Ix])⟩
 ·obtain⟨e,he⟩:=EQ hs;simp only [Ad,Af]at hx;obtain⟨_,_,_,_,_,_,rfl,_⟩:=hx;exact⟨_,(AZ rfl).2 rfl,(by simp_all [Builtin.len_,run_underlying,goInt,Ix])⟩
 ·split at hs
  ·rename_i k el n hae;obtain⟨hu,_⟩:=Mf hae;exact⟨_,(AZ rfl).2 rfl,(by simp_all [Builtin.len_,run_underlying,goInt,Ix])⟩
  grind
def KQ:List V->Option (IntKind×Int×List Int)
 | [.c (.int k x)]=>some (k,x,[])
 | .c (.int k x)::vs=>match KQ vs with
   | some (_,y,ys)=>some (k,x,y::ys)
   | none=>none
 | _=>none
def oE (vs:List V):Prop×V:=
 match KQ vs with
 | some (k,x,ys)=>(True, .c (.int k (ys.foldl (fun a y=>if y<a then y else a) x)))
 | none=>no
def oF (vs:List V):Prop×V:=
 match KQ vs with
 | some (k,x,ys)=>(True, .c (.int k (ys.foldl (fun a y=>if a<y then y else a) x)))
 | none=>no
theorem Qa: ∀ {vs:List V} {us:List Value} {k:IntKind} {x:Int} {ys:List Int},KQ vs=some (k,x,ys)->Aw w G vs us->
 ∃ ks:List IntKind,us= .int k x::(ks.zip ys).map (fun p=>Value.int p.1 p.2)/\ks.length=ys.length
 | [],us,k,x,ys,h,_=>by simp [KQ]at h
 | [v],us,k,x,ys,h,hr=>by
   unfold KQ at h;split at h
   ·rename_i k' x' he;injection he with he _;subst he;simp only [injEq,Prod.mk.injEq]at h;obtain⟨rfl,rfl,rfl⟩:=h;simp only [Aw,Ad,Af]at hr;simp_all
   all_goals grind
 | v::v2::vs,us,k,x,ys,h,hr=>by
   unfold KQ at h;split at h
   ·grind
   ·rename_i k' x' vs' hne he;injection he with he1 he2;subst he1 he2;split at h
    ·rename_i k2 y ys' q;simp only [injEq,Prod.mk.injEq]at h;obtain⟨rfl,rfl,rfl⟩:=h;rw [Aw]at hr;obtain⟨u,r,rfl,h1,h2⟩:=hr;simp only [Ad,Af]at h1;subst h1;obtain⟨ks,e,hl⟩:=Qa q h2;exact⟨k2::ks,by rw [e];simp,by simp [hl]⟩
    ·cases h
   ·cases h
theorem Q8 (w:World) (k:IntKind): ∀ (ks:List IntKind) (ys:List Int) (x:Int),ks.length=ys.length->
 (((ks.zip ys).map (fun p=>Value.int p.1 p.2)).foldlM Builtin.min2 (.int k x)).run P w= .ok (.int k (ys.foldl (fun a y=>if y<a then y else a) x)) w
 | [],[],x,_=>by simp
 | [],_::_,_,h=>by simp at h
 | _::_,[],_,h=>by simp at h
 | k'::ks,y::ys,x,h=>by simp only [List.zip_cons_cons,map_cons,List.foldlM_cons,foldl_cons,Sem.run_bind,Builtin.min2,Sem.run_pure,Result.andThen_ok];exact Q8 w k ks ys _ (by simpa using h)
theorem Q9 (w:World) (k:IntKind): ∀ (ks:List IntKind) (ys:List Int) (x:Int),ks.length=ys.length->
 (((ks.zip ys).map (fun p=>Value.int p.1 p.2)).foldlM Builtin.max2 (.int k x)).run P w= .ok (.int k (ys.foldl (fun a y=>if a<y then y else a) x)) w
 | [],[],x,_=>by simp
 | [],_::_,_,h=>by simp at h
 | _::_,[],_,h=>by simp at h
 | k'::ks,y::ys,x,h=>by simp only [List.zip_cons_cons,map_cons,List.foldlM_cons,foldl_cons,Sem.run_bind,Builtin.max2,Sem.run_pure,Result.andThen_ok];exact Q9 w k ks ys _ (by simpa using h)
variable {vs:List V} {us:Array Value} {ts:Array TypeId}
theorem oG (hx:Aw w G vs us.toList) (hs:(oE vs).1):
 ∃ r,Ad w G (oE vs).2 r/\ ∀ w',(Builtin.min_ ts ty us).run P w'= .ok r w':=by
 unfold oE at *;split at hs
 ·rename_i k x ys h;obtain⟨ks,e,hl⟩:=Qa h hx;exact⟨_,(AZ rfl).2 rfl,fun w'=>by simp only [Builtin.min_,e];exact Q8 w' k ks ys x hl⟩
 grind
theorem oH (hx:Aw w G vs us.toList) (hs:(oF vs).1):
 ∃ r,Ad w G (oF vs).2 r/\ ∀ w',(Builtin.max_ ts ty us).run P w'= .ok r w':=by
 unfold oF at *;split at hs
 ·rename_i k x ys h;obtain⟨ks,e,hl⟩:=Qa h hx;exact⟨_,(AZ rfl).2 rfl,fun w'=>by simp only [Builtin.max_,e];exact Q9 w' k ks ys x hl⟩
 grind
end Go.PL
namespace Go.PL
open Go Go.RowKit
def Z_ (p:Prop×V) (f:V->Prop×V):Prop×V:=(p.1/\(f p.2).1,(f p.2).2)
def St.args (st:St) (g:Bool):List Operand->Prop×List V
 | []=>(True,[])
 | x::xs=>((st.arg g x).1/\(st.args g xs).1,(st.arg g x).2::(st.args g xs).2)
def Qb:V->Option (Bool×Bool)
 | .c (.bool q)=>some (true,q)
 | .g c (.c (.bool q))=>some (c,q)
 | _=>none
def Xm (p:Bool) (a b:V):Prop×V:=
 match Qb a,Qb b with
 | some (ca,q),some (cb,r)=>((p=true->ca=true)/\(p=false->cb=true), .c (.bool (if p then q else r)))
 | _,_=>no
def bL:V->Prop×V
 | .c (.ptr id off)=>(True, .c (.ptr id off))
 | .c (.acm cs off)=>(True, .c (.acm cs off))
 | .c (.fn f)=>(True, .c (.fn f))
 | .c (.clo f cs)=>(True, .c (.clo f cs))
 | .c (.bmv f cs)=>(True, .c (.bmv f cs))
 | _=>no
def oI (i:Nat):V->Prop×V
 | .tup vs=>(i<vs.length,vs.getD i .undef)
 | _=>no
def C3 (st:St) (g:Bool):Option Operand->Prop×Option V
 | none=>(True,none)
 | some x=>((st.arg g x).1,some (st.arg g x).2)
def Qc (P:Program) (st:St) (g:Bool) (b:Builtin) (xs:List Operand) (ts:List TypeId):Prop×V:=
 match b,xs,ts with
 | .len,[x],[t]=>Z_ (st.arg g x) (P9 P t st)
 | .min,xs,_=>((st.args g xs).1/\(oE (st.args g xs).2).1,(oE (st.args g xs).2).2)
 | .max,xs,_=>((st.args g xs).1/\(oF (st.args g xs).2).1,(oF (st.args g xs).2).2)
 | _,_,_=>no
def rd (P:Program) (st:St) (g:Bool):Op->Prop×V
 | .move x=>st.arg g x
 | .assign x=>st.arg g x
 | .pick c a b=>Z_ (st.arg g c) fun p=>match p with
   | .c (.bool q)=>Xm q (st.ev a) (st.ev b)
   | _=>no
 | .load t x=>Z_ (st.arg g x) (DJ P t st)
 | .nilCheck x=>Z_ (st.arg g x) bL
 | .binOp op t x y _=>Z_ (st.arg g x) fun u=>Z_ (st.arg g y) fun v=>V4 P op t (BI x||BI y) u v
 | .unOp op _ x=>Z_ (st.arg g x) (zZ op)
 | .convert src dst x=>Z_ (st.arg g x) (Kh P src dst st)
 | .slice t x lo hi none=>Z_ (st.arg g x) fun u=>((C3 st g lo).1/\(C3 st g hi).1/\(GY P t u (C3 st g lo).2 (C3 st g hi).2).1,(GY P t u (C3 st g lo).2 (C3 st g hi).2).2)
 | .fieldAddr s x f=>Z_ (st.arg g x) (BV P s f)
 | .field t x f=>Z_ (st.arg g x) (Jf P t f)
 | .indexAddr t x i=>Z_ (st.arg g x) fun u=>Z_ (st.arg g i) fun v=>B8 P t st u v
 | .index t x i=>Z_ (st.arg g x) fun u=>Z_ (st.arg g i) fun v=>Ih P t u v
 | .extract x i=>Z_ (st.arg g x) (oI i)
 | .call c=>match c.callee with
   | .builtin b=>Qc P st g b c.args.toList c.argTypes.toList
   | _=>no
 | _=>no
variable {w:World} {G:AJ}
theorem Xn {x:V} {v:Value} {c q:Bool} (h:Qb x=some (c,q)) (hr:Ad w G x v) (hc:c=true):v= .bool q:=by
 unfold Qb at h;split at h
 ·simp only [injEq,Prod.mk.injEq]at h;obtain⟨rfl,rfl⟩:=h;grind [Ad,Af]
 ·simp only [injEq,Prod.mk.injEq]at h;obtain⟨rfl,rfl⟩:=h;simp_all [Ad,Af]
 ·cases h
variable {F:Fr} {st:St} {a:Act} {g:Bool}
theorem R.args (h:R F st a w G) (hg:g=true): ∀ {xs:List Operand},(st.args g xs).1->Aw w G (st.args g xs).2 (xs.map a.eval)
 | [],_=>by simp [St.args,Aw]
 | x::xs,hs=>by simp only [St.args]at hs ⊢;simp only [Aw,map_cons];exact⟨_,_,rfl,h.arg hg hs.1,h.args hg hs.2⟩
theorem IW: ∀ {xs:List V} {vs:List Value},Aw w G xs vs-> ∀ i,i<xs.length-> ∃ v,vs[i]? =some v/\Ad w G (xs.getD i .undef) v
 | [],vs,h,i,hi=>by simp at hi
 | x::xs,vs,h,i,hi=>by
   simp only [Aw]at h;obtain⟨v,r,rfl,h1,h2⟩:=h;cases i with
   | zero=>exact⟨v,by simp,by simpa using h1⟩
   | succ i=>
     obtain⟨v',q1,q2⟩:=IW h2 i (by simpa using hi);exact⟨v',by simpa using q1,by simpa using q2⟩
theorem Xo (h:R F st a w G) (hg:g=true) {x:Option Operand} (hs:(C3 st g x).1):Jh w G (C3 st g x).2 (x.map a.eval):=by
 cases x with
 | none=>simp [C3,Jh]
 | some x=>simp only [C3,Option.map,Jh]at hs ⊢;exact h.arg hg hs
theorem kj {P:Program} (h:R F st a w G) (hg:g=true) {o:Oper} (hs:(rd P st g o.op).1):
 ∃ v,Ad w G (rd P st g o.op).2 v/\ ∀ w',CY w w'->(execOp a.eval o).run P w'= .ok (.value v) w':=by
 cases ho:o.op<;>simp only [rd,ho,Z_]at hs ⊢ <;>try (exact hs.elim)
 case move x=>exact⟨_,h.arg hg hs,fun w' _=>by simp [execOp,ho]⟩
 case assign x=>exact⟨_,h.arg hg hs,fun w' _=>by simp [execOp,ho]⟩
 case pick c x y=>
  obtain⟨h1,h2⟩:=hs;have hc:=h.arg hg h1;split at h2
  ·rename_i q hq;rw [hq]at hc;simp only [Ad,Af]at hc;unfold Xm at h2 ⊢;split at h2
   ·rename_i ca qa cb qb e1 e2;cases q with
    | true=>
      have:=Xn e1 (h.ev x) (h2.1 rfl);simp_all [Ad,Af,execOp,asBool]
    | false=>
      have:=Xn e2 (h.ev y) (h2.2 rfl);simp_all [Ad,Af,execOp,asBool]
   grind
  grind
 case load t x=>
  obtain⟨v,q1,q2⟩:=NC (P:=P) h (h.arg hg hs.1) hs.2;exact⟨v,q1,(by simp_all [execOp])⟩
 case nilCheck x=>
  obtain⟨h1,h2⟩:=hs;have hx:=h.arg hg h1;unfold bL at h2 ⊢;split at h2
  ·rename_i id off e;rw [e]at hx;simp only [Ad,Af]at hx ⊢;obtain⟨b,hb,hv⟩:=hx;exact⟨_,⟨b,hb,rfl⟩,(by simp_all [execOp])⟩
  ·rename_i cs off e;rw [e]at hx;simp only [Ad,Af]at hx ⊢;obtain⟨hp,b,o',hv,k1⟩:=hx;exact⟨_,⟨hp,b,o',rfl,k1⟩,(by simp_all [execOp])⟩
  ·rename_i f e;rw [e]at hx;simp only [Ad,Af]at hx ⊢;exact⟨_,rfl,(by simp_all [execOp])⟩
  ·rename_i f cs e;rw [e]at hx;simp only [Ad,Af]at hx ⊢;obtain⟨arr,hv,hr⟩:=hx;exact⟨_,⟨arr,rfl,hr⟩,(by simp_all [execOp])⟩
  ·rename_i f cs e;rw [e]at hx;simp only [Ad,Af]at hx ⊢;obtain⟨arr,hv,hr⟩:=hx;exact⟨_,⟨arr,rfl,hr⟩,(by simp_all [execOp])⟩
  grind
 case binOp op t x y t'=>
  obtain⟨v,q1,q2⟩:=oB (P:=P) (ox:=x) (oy:=y) (h.arg hg hs.1) (h.arg hg hs.2.1) hs.2.2;refine⟨v,q1,fun w' hw'=>?_⟩;have:=q2 w';simp only [execOp,ho,Sem.run_bind]at this ⊢;simp_all
 case unOp op t x=>
  obtain⟨v,q1,q2⟩:=dx (P:=P) (h.arg hg hs.1) hs.2;exact⟨v,q1,(by simp_all [execOp])⟩
 case convert src dst x=>
  obtain⟨v,q1,q2⟩:=kg (P:=P) h (h.arg hg hs.1) hs.2;exact⟨v,q1,(by simp_all [execOp])⟩
 case slice t x lo hi mx=>
  cases mx with
  | some _=>grind
  | none=>
    simp only [Z_]at hs ⊢;obtain⟨v,q1,q2⟩:=gw (P:=P) (h.arg hg hs.1) (Xo h hg hs.2.1) (Xo h hg hs.2.2.1) hs.2.2.2;exact⟨v,q1,(by simp_all [execOp])⟩
 case fieldAddr s x f=>
  obtain⟨v,q1,q2⟩:=Lx (P:=P) (h.arg hg hs.1) hs.2;exact⟨v,q1,(by simp_all [execOp])⟩
 case field s x f=>
  obtain⟨v,q1,q2⟩:=gq (P:=P) (h.arg hg hs.1) hs.2;exact⟨v,q1,(by simp_all [execOp])⟩
 case indexAddr t x i=>
  obtain⟨v,q1,q2⟩:=Ly (P:=P) h (h.arg hg hs.1) (h.arg hg hs.2.1) hs.2.2;exact⟨v,q1,(by simp_all [execOp])⟩
 case index t x i=>
  obtain⟨v,q1,q2⟩:=gu (P:=P) (h.arg hg hs.1) (h.arg hg hs.2.1) hs.2.2;exact⟨v,q1,(by simp_all [execOp])⟩
 case extract x i=>
  obtain⟨h1,h2⟩:=hs;have hx:=h.arg hg h1;unfold oI at h2 ⊢;split at h2
  ·rename_i vs e;rw [e]at hx;simp only [Ad]at hx;obtain⟨arr,hv,hr⟩:=hx;obtain⟨v,q1,q2⟩:=IW hr i h2;have q1':arr[i]? =some v:=by grind
   exact⟨v,q2,(by simp_all [execOp,Instr.extract])⟩
  grind
 case call c=>
  split at hs
  ·rename_i b ae5;unfold Qc at hs ⊢;split at hs
   ·rename_i x t hxs hts;have ea:c.args= #[x]:=by grind
    have et:c.argTypes= #[t]:=by grind
    obtain⟨v,q1,q2⟩:=oD (P:=P) (ty:=o.type) h (h.arg hg hs.1) hs.2;refine⟨v,q1,fun w' _=>?_⟩;simp_all [execOp,resolve,invoke,builtin]
   ·rename_i xs ts hxs;obtain⟨v,q1,q2⟩:=oG (P:=P) (ts:=c.argTypes) (ty:=o.type) (us:=c.args.map a.eval) (by simpa using h.args hg hs.1) hs.2;exact⟨v,q1,(by simp_all [execOp,resolve,invoke,builtin])⟩
   ·obtain⟨v,q1,q2⟩:=oH (P:=P) (ts:=c.argTypes) (ty:=o.type) (us:=c.args.map a.eval) (by simpa using h.args hg hs.1) hs.2;exact⟨v,q1,(by simp_all [execOp,resolve,invoke,builtin])⟩
   grind
  grind
end Go.PL
namespace Go.PL
open Go Go.RowKit
def HJ (id:Ah) (c:C):C:=if c.E_ id then .any else c
def EZ (id:Ah) (v:V):V:=if v.E_ id then .undef else v
def AB.kill (id:Ah) (e:AB):AB:=match e with
 | ⟨i,r,cs,true⟩=>⟨i,r,cs,true⟩
 | ⟨i,r,cs,false⟩=>⟨i,r,cs.map (HJ id),false⟩
theorem AB.X_ (id:Ah) (e:AB):(e.kill id).id =e.id:=by obtain⟨i,r,cs,_ | _⟩:=e<;>rfl
theorem AB.ad0 (id:Ah) (e:AB):(e.kill id).row =e.row:=by obtain⟨i,r,cs,_ | _⟩:=e<;>rfl
def St.kill (st:St) (id:Ah):St:={tm:=st.tm.map (EZ id),so:=(st.so.filter (fun e=>e.id != id&& !(C2 id&&E9 e.id))).map (AB.kill id),gh:=st.gh.map (EZ id),pre:=st.pre}
def US (e:AB) (l:List AB):List AB:=match C2 e.id||E9 e.id with
 | true=>l
 | false=>e::l
def St.new (st:St) (e:AB):St:={tm:=(st.kill e.id).tm,so:=US (e.kill e.id) (st.kill e.id).so,gh:=(st.kill e.id).gh,pre:=st.pre}
theorem IX {e x:AB} {l:List AB} (h:x∈US e l):x=e/\C2 e.id=false/\E9 e.id=false\/x∈l:=by grind [US]
def B0 (F:Fr) (G:AJ) (id:Ah) (b:Option Nat) (v:Option Value):AJ where
 y_:=fun i=>if i=id then b else G.y_ i
 own:=fun i=>if i=id then v else G.own i
 wr:=fun x=>F.av x\/ ∃ i,(if i=id then b else G.y_ i)=some x
theorem tS (id:Ah) (c:C):(HJ id c).E_ id=false:=by grind [HJ,C.E_]
theorem S5 (id:Ah) (v:V):(EZ id v).E_ id=false:=by grind [EZ,V.E_]
theorem S6 (id:Ah): ∀ cs:List C,BO id (cs.map (HJ id))=false
 | []=>by simp [BO]
 | c::cs=>by simp [BO,tS,S6 id cs]
variable {w:World} {G:AJ} {v:Value}
theorem tT {id:Ah} {c:C} (h:Af w G c v):Af w G (HJ id c) v:=by
 unfold HJ;split
 ·simp only [Af];exact h.one
 ·exact h
theorem S7 {id:Ah}: ∀ {cs:List C} {vs:List Value},Ai w G cs vs->Ai w G (cs.map (HJ id)) vs
 | [],[],_=>by simp [Ai]
 | [],_::_,h=>by grind
 | _::_,[],h=>by simp [Ai]at h
 | c::cs,v::vs,h=>by simp only [Ai]at h;simp only [map_cons,Ai];exact⟨tT h.1,S7 h.2⟩
theorem UT {id:Ah} {cs:List C} {b o:Nat} (h:Am w G cs b o):Am w G (cs.map (HJ id)) b o:=by obtain⟨vs,h1,h2⟩:=h.list;exact Am.aaY (S7 h1) h2
variable {x:V}
theorem S8 {id:Ah} (h:Ad w G x v):Ad w G (EZ id x) v:=by grind [EZ,Ad]
theorem Qd {id:Ah}: ∀ {xs:List V} {vs:List Value},Aw w G xs vs->Aw w G (xs.map (EZ id)) vs
 | [],_,h=>by grind
 | x::xs,vs,h=>by simp only [Aw]at h;obtain⟨v,r,e,h1,h2⟩:=h;simp only [map_cons,Aw];exact⟨v,r,e,S8 h1,Qd h2⟩
theorem Qe (id:Ah): ∀ xs:List V,KN id (xs.map (EZ id))=false
 | []=>by simp [KN]
 | x::xs=>by simp [KN,S5,Qe id xs]
theorem dy {id:Ah} {e:AB} (h:Ba w G e):Ba w G (e.kill id):=by
 obtain⟨i,r,cs,pu⟩:=e;cases pu with
 | true=>exact h
 | false=>
 unfold Ba at *;simp only [AB.kill];simp only at h;split at h
 ·obtain⟨b,h1,h2⟩:=h;refine⟨b,h1,?_⟩;rcases h2 with ⟨kv,es,rfl,h2⟩ | ⟨T,cur,h2,h3,h4⟩
  ·exact .inl ⟨kv,es,by simp [HJ,C.E_],h2⟩
  ·exact .inr ⟨T,cur,h2,by simpa using h3,UT h4⟩
 ·obtain⟨hl,v,h1,h2⟩:=h;refine⟨by grind,v,h1,?_⟩;rcases h2 with h2 | ⟨b,cap,cur,e1,e2,e3,e4,e5,e6,e7⟩
  ·grind
  ·exact .inr ⟨b,cap,cur,e1,e2,e3,e4,e5,e6,UT e7⟩
theorem OP {id:Ah} {e:AB} (h:e.pu=true->Au e.cs=true):(e.kill id).pu =true->Au (e.kill id).cs =true:=by
 obtain⟨i,r,cs,pu⟩:=e;cases pu with
 | true=>exact h
 | false=>intro hq;cases hq
theorem kk {id:Ah} {e:AB} (h:e.pu=true->Au e.cs=true):BO id (e.kill id).cs =false:=by
 obtain⟨i,r,cs,pu⟩:=e;cases pu with
 | true=>exact AU id cs (h rfl)
 | false=>exact S6 id cs
variable {w':World} {G':AJ}
theorem Cq (hk:Cf G G' w w') {e:AB} (ha:Jd (fun id=>BO id e.cs=true) G G') (hid:G'.y_ e.id=G.y_ e.id/\G'.own e.id=G.own e.id)
 (hb: ∀ b,G.y_ e.id=some b->w'.heap[b]? =w.heap[b]?) (h:Ba w G e):Ba w' G' e:=by
 unfold Ba at *;split at h
 ·obtain⟨b,h1,h2⟩:=h;refine⟨b,by grind,?_⟩;rcases h2 with ⟨kv,es,h2,h3,h4⟩ | ⟨T,cur,h2,h3,h4⟩
  ·exact .inl ⟨kv,es,h2,by rw [hb b h1];exact h3,h4⟩
  ·exact .inr ⟨T,cur,by rw [hb b h1];exact h2,h3,Am.mono hk _ _ _ ha (fun o=>aaD (hb b h1) o) h4⟩
 ·obtain⟨hl,v,h1,h2⟩:=h;refine⟨hl,v,by grind,?_⟩;rcases h2 with ⟨p,e1,e2,e3⟩ | ⟨b,cap,cur,e1,e2,e3,e4,e5,e6,e7⟩
  ·grind
  ·exact .inr ⟨b,cap,cur,e1,by grind,by grind,e4,e5,e6,(by grind [Am.mono,aaD])⟩
theorem EP.mono (hk:Cf G G' w w') {e:AB} (hid:G'.y_ e.id=G.y_ e.id/\G'.own e.id=G.own e.id) (hmk: ∀ k,G'.y_ (BL k e.id)=G.y_ (BL k e.id)/\G'.own (BL k e.id)=G.own (BL k e.id))
 (hb: ∀ b,G.y_ e.id=some b->w'.heap[b]? =w.heap[b]?) (hbm: ∀ k b,G.y_ (BL k e.id)=some b->w'.heap[b]? =w.heap[b]?) (h:EP w G e):EP w' G' e:=fun k E n len cs q=>by
 obtain⟨h1,h2,b,v,h3,h4,h5⟩:=h k E n len cs q;refine⟨h1,Cq hk (e:=⟨BL k e.id,some (E,n,len),cs,true⟩) (fun i hi=>absurd (show BO i cs=true from hi) (by rw [AU i cs h1];simp)) (hmk k) (hbm k) h2,b,v,by grind,?_,by grind⟩;grind [aaD]
theorem Bu.mono (hk:Cf G G' w w') {e:AB} (hid:G'.y_ e.id=G.y_ e.id/\G'.own e.id=G.own e.id) (hmk:E9 e.id=true-> ∀ k,G'.y_ (BL k e.id)=G.y_ (BL k e.id)/\G'.own (BL k e.id)=G.own (BL k e.id))
 (hb: ∀ b,G.y_ e.id=some b->w'.heap[b]? =w.heap[b]?) (hbm:E9 e.id=true-> ∀ k b,G.y_ (BL k e.id)=some b->w'.heap[b]? =w.heap[b]?) (h:Bu w G e):Bu w' G' e:=
 ⟨h.1,fun hd=>⟨(h.2 hd).1,(h.2 hd).2.1,(h.2 hd).2.2.mono hk hid (hmk hd) hb (hbm hd)⟩⟩
theorem Bu.kill {e:AB} {id:Ah} (h:Bu w G e):Bu w G (e.kill id):=by
 obtain⟨i,r,cs,pu⟩:=e;cases pu with
 | true=>exact h
 | false=>exact⟨h.1,fun hd=>absurd (h.2 hd).1 (by simp)⟩
theorem Bu.asP {e:AB} (h1:C2 e.id=false) (h2:E9 e.id=false):Bu w G e:=⟨h1,fun hd=>by rw [h2]at hd;cases hd⟩
variable {st:St}
theorem FN {f:V->V} (hf:f .undef = .undef) (i:Nat):(st.tm.map f).getD i .undef =f (st.tm.getD i .undef):=by grind
structure NE (w w':World):Prop where
 os:w'.os=w.os
 tape:w'.tape=w.tape
 output:w'.output=w.output
variable {F:Fr} {a:Act}
theorem R.rename (h:R F st a w G) (id:Ah) (nb:Option Nat) (nv:Option Value)
 (ho:NE w w') (hs:w.heap.size<=w'.heap.size)
 (arQ: ∀ b,b<F.w0.heap.size-> ¬F.old b->w'.heap[b]? =w.heap[b]?)
 (hn: ∀ b,nb=some b->(w.heap.size<=b\/G.y_ id=some b)/\b<w'.heap.size) (d_:St)
 (htm:d_.tm.length=st.tm.length) (hsl: ∀ i,Ad w' (B0 F G id nb nv) (d_.tm.getD i .undef) (a.tmps.getD i Go.undef))
 (hgh:Aw w' (B0 F G id nb nv) d_.gh F.gv) (hpu: ∀ e∈d_.so,e.pu=true->Au e.cs=true) (hso: ∀ e∈d_.so,Ba w' (B0 F G id nb nv) e) (hdp: ∀ e∈d_.so,Bu w' (B0 F G id nb nv) e) (hnd:(d_.so.map (·.id)).Nodup):R F d_ a w' (B0 F G id nb nv) where
 dfr:=h.dfr
 size:=by rw [htm];exact h.size
 M_:=hsl
 Tk:=hgh
 P_:=hpu
 store:=hso
 deep:=hdp
 nodup:=hnd
 inj:=by
  intro i j b hi hj;simp only [B0]at hi hj;split at hi<;>split at hj
  ·simp_all
  ·rename_i q1 q2;rcases (hn b hi).1 with q | q
   ·exact absurd (h.lt j b hj) (by omega)
   ·exact absurd (h.inj j id b hj q) q2
  ·rename_i q1 q2;rcases (hn b hj).1 with q | q
   ·exact absurd (h.lt i b hi) (by omega)
   ·exact absurd (h.inj i id b hi q) q1
  ·exact h.inj i j b hi hj
 lt:=by
  intro i b hi;simp only [B0]at hi;split at hi
  ·grind
  ·exact lt_of_lt_of_le (h.lt i b hi) hs
 new:=by
  intro i b hi;simp only [B0]at hi;split at hi
  ·rcases (hn b hi).1 with q | q
   ·grind
   ·exact h.new id b q
  ·exact h.new i b hi
 wr:=fun b=>Iff.rfl
 abi:=h.abi
 inv:=h.inv
 aaI:=h.aaI
 os:=ho.os.trans h.os
 tape:=ho.tape.trans h.tape
 output:=ho.output.trans h.output
 L_:=le_trans h.L_ hs
 ext:=fun b hb hold=>(arQ b hb hold).trans (h.ext b hb hold)
theorem R.keeps (h:R F st a w G) (id:Ah) (nb:Option Nat) (nv:Option Value)
 (hs:w.heap.size<=w'.heap.size) (ab5: ∀ b,b<w.heap.size->(G.y_ id ≠ some b)->w'.heap[b]? =w.heap[b]?)
 (hn: ∀ b,nb=some b->w.heap.size<=b\/(G.y_ id=some b/\B7 w w' b)):Cf G (B0 F G id nb nv) w w' where
 size:=hs
 block:=fun b hb hw=>ab5 b hb (fun he=>hw ((h.wr b).2 (.inr ⟨id,he⟩)))
 wr:=by intro b hb hw;simp only [B0]at hw;rw [h.wr];grind
 ty:=by
  intro i b h1 h2;have hb:=h.lt i b h1;simp only [B0]at h2;split at h2
  ·grind
  ·rename_i hne;exact B7.same (ab5 b hb (fun q=>hne (h.inj _ _ b h1 q)))
theorem Dm {id:Ah} {nb:Option Nat} {nv:Option Value} {S:Ah->Prop} (hS: ∀ i,S i->i ≠ id):Jd S G (B0 F G id nb nv):=
 fun i hi=>by simp [B0,hS i hi]
theorem R.set (h:R F st a w G) (e:AB) (nb:Option Nat) (nv:Option Value)
 (ho:NE w w') (hs:w.heap.size<=w'.heap.size) (ab5: ∀ b,b<w.heap.size->(G.y_ e.id ≠ some b)->w'.heap[b]? =w.heap[b]?)
 (arQ: ∀ b,b<F.w0.heap.size-> ¬F.old b->w'.heap[b]? =w.heap[b]?)
 (hn: ∀ b,nb=some b->(w.heap.size<=b\/(G.y_ e.id=some b/\B7 w w' b))/\b<w'.heap.size) (hp:e.pu=true->Au e.cs=true) (he:Ba w' (B0 F G e.id nb nv) (e.kill e.id)):R F (st.new e) a w' (B0 F G e.id nb nv):=by
 have hk:=h.keeps e.id nb nv hs ab5 (by grind);refine h.rename e.id nb nv ho hs arQ (by grind) (st.new e) (by simp [St.new,St.kill]) ?_ ?_ ?_ ?_ ?_ ?_
 ·intro i;simp only [St.new,St.kill];rw [FN (by simp [EZ,V.E_])];exact Ad.mono hk _ _ (by grind [Dm,S5]) (S8 (h.M_ i))
 ·simp only [St.new,St.kill];exact Aw.mono hk _ _ (by grind [Dm,Qe]) (Qd h.Tk)
 ·intro e' he';simp only [St.new,St.kill]at he';rcases IX he' with ⟨rfl,_⟩ | he'
  ·exact OP hp
  ·simp only [mem_map,mem_filter]at he';obtain⟨d,⟨hd,hne⟩,rfl⟩:=he';exact OP (h.P_ d hd)
 ·intro e' he';simp only [St.new,St.kill]at he';rcases IX he' with ⟨rfl,_⟩ | he'
  ·exact he
  ·simp only [mem_map,mem_filter,and_eq_true]at he';obtain⟨d,⟨hd,hne,_⟩,rfl⟩:=he';have ad4:d.id ≠ e.id:=by grind
   refine Cq hk (Dm (fun i hi he'=>by subst he';rw [kk (h.P_ d hd)]at hi;cases hi)) (by grind [B0,AB.X_]) ?_ (dy (h.store d hd));intro b hb;rw [AB.X_]at hb;exact ab5 b (h.lt _ b hb) (fun q=>ad4 (h.inj _ _ b hb q))
 ·intro e' he';simp only [St.new,St.kill]at he';rcases IX he' with ⟨rfl,h1,h2⟩ | he'
  ·exact Bu.asP h1 h2
  ·simp only [mem_map,mem_filter,and_eq_true]at he';obtain⟨d,⟨hd,hne,hmd⟩,rfl⟩:=he';have ad4:d.id ≠ e.id:=by grind
   have hmk:E9 (d.kill e.id).id =true-> ∀ k,BL k (d.kill e.id).id ≠ e.id:=by grind [AB.X_,j9]
   refine Bu.mono hk (by grind [B0,AB.X_]) (by grind [B0]) ?_ (fun hq k b hb=>ab5 b (h.lt _ b hb) (fun q=>hmk hq k (h.inj _ _ b hb q))) (h.deep d hd).kill;intro b hb;rw [AB.X_]at hb;exact ab5 b (h.lt _ b hb) (fun q=>ad4 (h.inj _ _ b hb q))
 ·have ahS:List.Sublist (((st.new e).so.map (·.id))) (e.id::((st.so.filter (fun d=>d.id != e.id&& !(C2 e.id&&E9 d.id))).map (·.id))):=by
   simp only [St.new,St.kill,US];split
   all_goals simp_all [Function.comp_def,AB.X_]
  refine List.Sublist.nodup ahS (List.nodup_cons.2 ⟨by grind,?_⟩);exact List.Sublist.nodup (by grind [List.filter_sublist]) h.nodup
theorem R.put (h:R F st a w G) {d:Option Nat} (hx:Ad w G x v):R F (st.put d x) (a.put d v) w G:=by
 cases d with
 | none=>exact h
 | some d=>
   exact {
    dfr:=h.dfr
    size:=by simp [St.put,Act.put,h.size]
    M_:=by
     intro i;simp only [St.put,Act.put];by_cases hi:i=d
     ·subst hi;by_cases hl:i<st.tm.length
      ·simp [List.getD_eq_getElem?_getD,hl,h.size,hx]
      grind [Ad]
     ·have h1:(st.tm.set d x).getD i .undef =st.tm.getD i .undef :=by grind
      have h2:(a.tmps.setIfInBounds d v).getD i Go.undef=a.tmps.getD i Go.undef:=by simp_all [Ne.symm]
      rw [h1,h2];exact h.M_ i
    Tk:=by simpa [St.put] using h.Tk
    store:=h.store,deep:=h.deep,P_:=h.P_,nodup:=h.nodup,inj:=h.inj,lt:=h.lt,new:=h.new,wr:=h.wr,abi:=h.abi,inv:=h.inv,aaI:=h.aaI,os:=h.os,tape:=h.tape,output:=h.output,L_:=h.L_,ext:=h.ext}
theorem R.same (h:R F st a w G) (ho:NE w w') (hs:CY w w'):R F st a w' G:=by
 have hk:Cf G G w w':=⟨hs.size,fun b hb _=>hs.block b hb,fun b _ h=>h,fun i b h1 _=>B7.same (hs.block b (h.lt i b h1))⟩;exact {
  dfr:=h.dfr,size:=h.size
  M_:=fun i=>Ad.mono hk _ _ (fun _ _=>⟨rfl,rfl⟩) (h.M_ i)
  Tk:=Aw.mono hk _ _ (fun _ _=>⟨rfl,rfl⟩) h.Tk
  store:=fun e he=>Cq hk (fun _ _=>⟨rfl,rfl⟩) ⟨rfl,rfl⟩ (fun b hb=>hs.block b (h.lt _ b hb)) (h.store e he)
  deep:=fun e he=>Bu.mono hk ⟨rfl,rfl⟩ (by grind) (fun b hb=>hs.block b (h.lt _ b hb)) (fun _ k b hb=>hs.block b (h.lt _ b hb)) (h.deep e he)
  P_:=h.P_
  nodup:=h.nodup,inj:=h.inj
  lt:=fun i b hb=>lt_of_lt_of_le (h.lt i b hb) hs.size
  new:=h.new,wr:=h.wr,abi:=h.abi,inv:=h.inv,aaI:=h.aaI
  os:=ho.os.trans h.os,tape:=ho.tape.trans h.tape,output:=ho.output.trans h.output
  L_:=le_trans h.L_ hs.size
  ext:=fun b hb hold=>(hs.block b (lt_of_lt_of_le hb h.L_)).trans (h.ext b hb hold)}
end Go.PL
namespace Go.PL
open Go Go.RowKit
variable {w:World}
theorem Aag {o:Obj} {b:Nat} (h:b<w.heap.size):(w.heap.push o)[b]? =w.heap[b]? :=by grind
theorem Ji (w:World) (o:Obj):(w.alloc o).heap =w.heap.push o:=rfl
theorem Ki (w:World) (o:Obj):NE w (w.alloc o):=⟨rfl,rfl,rfl⟩
theorem Jj (w:World) (o:Obj):CY w (w.alloc o):=⟨by simp [Ji],(by grind [Ji])⟩
variable {F:Fr} {st:St} {a:Act} {G:AJ} {cs:List C} {pu:Bool}
theorem Hw {w':World} (h:R F st a w G) {id:Ah} {nb:Option Nat} {nv:Option Value} (hk:Cf G (B0 F G id nb nv) w w') {vs:List Value} {row:Option (TypeId×Nat×Nat)} (hp:pu=true->Au cs=true) (hr:Ai w G cs vs):Ai w' (B0 F G id nb nv) (AB.kill id ⟨id,row,cs,pu⟩).cs vs:=by
 cases pu with
 | true=>exact Ai.mono hk _ _ (Dm (fun i hi he'=>by subst he';have:=AU i cs (hp rfl);grind [AB.kill])) hr
 | false=>grind [Ai.mono,Dm,AB.kill,S6,S7]
theorem NF {id:Ah} {row:Option (TypeId×Nat×Nat)}:(AB.kill id ⟨id,row,cs,pu⟩).cs.length =cs.length:=by cases pu<;>simp [AB.kill]
theorem kl {e:AB} (Tc:e.row=none) (h: ∃ b T cur,G.y_ e.id=some b/\w.heap[b]? =some (.cells cur T (0,0))/\cur.size=e.cs.length/\Am w G e.cs b 0):Ba w G e:=by unfold Ba;rw [Tc];obtain⟨b,T,cur,h1,h2⟩:=h;exact⟨b,h1, .inr ⟨T,cur,h2⟩⟩
theorem Jk {e:AB} {E n len:Nat} (Tc:e.row=some (E,n,len)) (h:e.cs.length=len*n/\ ∃ v,G.own e.id=some v/\
 ((∃ p,v= .slice p 0 0/\len=0/\G.y_ e.id=none)\/
  ∃ b cap cur,v= .slice (some ⟨b,0,none⟩) len cap/\G.y_ e.id=some b/\w.heap[b]? =some (.cells cur E (0,0))/\len<=cap/\cap<=maxLen/\cur.size=cap*n/\Am w G e.cs b 0)):Ba w G e:=by
 grind [Ba]
theorem PB (w:World) (cur:Array Value) (T:TypeId):(w.alloc (.cells cur T)).rangeAt w.heap.size 0 cur.toList:=by intro j v hv;simp_all
theorem R.box (h:R F st a w G) (id:Ah) (T:TypeId) (cs:List C) (cur:Array Value) (hr:Ai w G cs cur.toList) (pu:Bool) (hp:pu=true->Au cs=true):
 R F (st.new ⟨id,none,cs,pu⟩) a (w.alloc (.cells cur T)) (B0 F G id (some w.heap.size) none):=by
 have ad3:=Jj w (.cells cur T);refine h.set ⟨id,none,cs,pu⟩ (some w.heap.size) none (Ki _ _) ad3.size (fun b hb _=>ad3.block b hb) (fun b hb _=>ad3.block b (lt_of_lt_of_le hb h.L_)) ?_ hp ?_
 ·simp_all
 ·refine kl (AB.ad0 _ _) ⟨w.heap.size,T,cur,by simp [B0,AB.X_],by simp [Ji],by rw [NF];simpa using hr.length.symm,?_⟩;exact Am.aaY (Hw h (h.keeps id _ _ ad3.size (fun b hb _=>ad3.block b hb) (by grind)) hp hr) (PB w cur T)
theorem R.row (h:R F st a w G) (id:Ah) (T n len cap:Nat) (cs:List C) (cur:Array Value) (vs:List Value) (hr:Ai w G cs vs) (hp:cur.toList.take vs.length=vs)
 (hl:cs.length=len*n) (hc:cur.size=cap*n) (hlc:len<=cap) (hm:cap<=maxLen) (pu:Bool) (hp':pu=true->Au cs=true):
 R F (st.new ⟨id,some (T,n,len),cs,pu⟩) a (w.alloc (.cells cur T)) (B0 F G id (some w.heap.size) (some (.slice (some ⟨w.heap.size,0,none⟩) len cap))):=by
 have ad3:=Jj w (.cells cur T);refine h.set ⟨id,some (T,n,len),cs,pu⟩ (some w.heap.size) _ (Ki _ _) ad3.size (fun b hb _=>ad3.block b hb) (fun b hb _=>ad3.block b (lt_of_lt_of_le hb h.L_)) ?_ hp' ?_
 ·simp_all
 ·refine Jk (AB.ad0 _ _) ⟨by rw [NF];exact hl,_,by simp_all [B0,AB.X_], .inr ⟨w.heap.size,cap,cur,rfl,by simp [B0,AB.X_],by simp [Ji],hlc,hm,hc,?_⟩⟩;refine Am.aaY (Hw h (h.keeps id _ _ ad3.size (fun b hb _=>ad3.block b hb) (by grind)) hp' hr) ?_;intro j v hv;refine PB w cur T j v ?_;grind
theorem R.apu (h:R F st a w G) (id:Ah) (T n:Nat) (p:Option Addr):
 R F (st.new ⟨id,some (T,n,0),[],true⟩) a w (B0 F G id none (some (.slice p 0 0))):=by
 refine h.set ⟨id,some (T,n,0),[],true⟩ none _ ⟨rfl,rfl,rfl⟩ (le_refl _) (fun _ _ _=>rfl) (fun _ _ _=>rfl) (by grind) (fun _=>rfl) ?_;simp only [Ba,AB.kill];exact⟨by simp, .slice p 0 0,by simp [B0], .inl ⟨p,rfl,trivial,by simp [B0]⟩⟩
theorem R.anZ (h:R F st a w G) (id:Ah) (T n:Nat):
 R F (st.new ⟨id,some (T,n,0),[],true⟩) a w (B0 F G id none (some (.slice none 0 0))):=h.apu id T n none
def V.cells:V->Option (List C)
 | .c x=>some [x]
 | .agg cs=>some cs
 | _=>none
theorem Jl {x:V} {v:Value} (h:Ad w G x v) (hc:x.cells=some cs):Ai w G cs v.cells.toList:=by
 unfold V.cells at hc;split at hc
 ·injection hc with hc;subst hc;simp only [Ad]at h;have:=h.one;have e:v.cells= #[v]:=by cases v<;>simp_all [Value.cells,Value.oneCell']
  grind [Ai]
 ·injection hc with hc;subst hc;simp only [Ad]at h;obtain⟨arr,rfl,hr⟩:=h;grind [Value.cells]
 ·cases hc
def PD (P:Program) (t:TypeId):Option (List C):=
 match P.info? t with
 | some i=>match i.zero with
   | some z=>DZ z.cells.toList
   | none=>none
 | none=>none
variable {P:Program} {t:TypeId}
theorem GZ (h:PD P t=some cs): ∃ i z,P.info? t=some i/\i.zero=some z/\DZ z.cells.toList=some cs:=by grind [PD]
theorem aeN {i:TypeInfo} {z:Value} (hi:P.info? t=some i) (hz:i.zero=some z) (w:World):(zeroValue t).run P w= .ok z w:=by simp_all [zeroValue,typeInfo]
def Jm (place:Nat->Option (Nat×Nat)) (cells:List C):List (Nat×V)->Option (List C)
 | []=>some cells
 | (i,v)::rest=>match place i,v.cells with
   | some (off,size),some cs=>if cs.length=size/\off+size<=cells.length then Jm place (cells.take off++cs++cells.drop (off+size)) rest else none
   | _,_=>none
def Ni (w:World) (G:AJ):List (Nat×V)->List (Nat×Value)->Prop
 | [],[]=>True
 | (i,x)::xs,(j,v)::vs=>i=j/\Ad w G x v/\Ni w G xs vs
 | _,_=>False
theorem dz (vs:List Value) (off:Nat): ∀ (k:Nat) (cs:Array Value),off+k+vs.length<=cs.size->
 ((vs.zipIdx k).foldl (fun cs (c,j)=>cs.setIfInBounds (off+j) c) cs).toList =cs.toList.take (off+k)++vs++cs.toList.drop (off+k+vs.length):=by
 induction vs with
 | nil=>simp_all
 | cons v vs ih=>
   intro k cs hk;simp only [List.zipIdx_cons,foldl_cons];simp only [List.length_cons]at hk ⊢;rw [ih (k+1) _ (by simp;omega)];have hlt:off+k<cs.toList.length:=by simp;omega
   rw [Array.toList_setIfInBounds,List.set_eq_take_append_cons_drop,if_pos hlt];have e1:(cs.toList.take (off+k)).length =off+k:=by grind
   rw [List.take_append,List.drop_append,e1];rw [show off+(k+1) - (off+k)=1 by omega,show off+(k+1)+vs.length - (off+k)=vs.length+1 by omega];rw [List.take_take,show min (off+(k+1)) (off+k)=off+k by omega];have e3:List.drop (off+(k+1)+vs.length) (List.take (off+k) cs.toList)=[]:=(by grind [List.drop_of_length_le]);grind [drop_drop]
theorem Jn {place:Nat->Option (Nat×Nat)}: ∀ {ps:List (Nat×V)} {qs:List (Nat×Value)} {cells out:List C} {arr:Array Value},
 Jm place cells ps=some out->Ni w G ps qs->Ai w G cells arr.toList-> ∃ abN,Instr.fill place arr qs=some abN/\Ai w G out abN.toList
 | [],[],cells,out,arr,h,_,hr=>by simp only [Jm,injEq]at h;subst h;exact⟨arr,rfl,hr⟩
 | [],_::_,_,_,_,_,h,_=>by simp [Ni]at h
 | _::_,[],_,_,_,_,h,_=>by simp [Ni]at h
 | (i,x)::ps,(j,v)::qs,cells,out,arr,h,hp,hr=>by
   simp only [Ni]at hp;obtain⟨rfl,hv,hp⟩:=hp;simp only [Jm]at h;split at h
   ·rename_i off size cs hpl hcs;split at h
    ·rename_i hb;have hvc:=Jl hv hcs;have hl:=hr.length;have hlv:=hvc.length;have e:=dz v.cells.toList off 0 arr (by simp at hl hlv ⊢;omega);simp only [Instr.fill,hpl];rw [if_neg (by simp at hl hlv ⊢;omega)];refine Jn h hp ?_;rw [<-Array.foldl_toList,Array.toList_zipIdx,e];simp only [add_zero];have:v.cells.toList.length=size:=by grind
     rw [this];exact((hr.take off).append hvc).append (hr.drop (off+size))
    ·cases h
   ·cases h
end Go.PL
namespace Go.PL
open Go Go.RowKit
variable {w:World} {b:Nat} {cur:Array Value} {T:TypeId} {fr:Nat×Nat} {us:List Value}
theorem BA (h:w.heap[b]? =some (.cells cur T fr)) {rest:List Value} (e:us++rest=cur.toList):w.rangeAt b 0 us:=by
 intro j v hv;have h2:cur.toList[j]? =some v:=by grind
 grind [World.cell?]
theorem Hx (h:w.heap[b]? =some (.cells cur T fr)) (hr:w.rangeAt b 0 us):us++cur.toList.drop us.length=cur.toList:=by
 have:us=cur.toList.take us.length:=by
  apply List.ext_getElem?;intro j;by_cases hj:j<us.length
  ·have:=hr j us[j] (by simp [hj]);simp_all [World.cell?]
  grind
 grind [take_append_drop]
def St.adH (st:St) (id:Ah) (cs:List C) (q:Bool):St:={st with so:=st.so.map fun e=>if e.id==id then⟨e.id,e.row,cs,e.pu&&q⟩else e}
variable {F:Fr} {st:St} {a:Act} {G:AJ}
theorem R.stored (h:R F st a w G) {id:Ah} {e:AB} (he:st.look id=some e) (hb:G.y_ id=some b) {off:Nat} {xs:List C} {vs:List Value}
 (hx:Ai w G xs vs) (acX:off+xs.length<=e.cs.length):
 ∃ cur T,w.heap[b]? =some (.cells cur T (0,0))/\off+vs.length<=cur.size/\
   R F (st.adH id (e.cs.take off++xs++e.cs.drop (off+xs.length)) (Au xs)) a (w.setRow b (cur.toList.take off++vs++cur.toList.drop (off+vs.length)).toArray) G:=by
 obtain⟨hm,hid⟩:=Bi he;obtain⟨cur,T,agY,hle,Tc⟩:=(h.store e hm).row (WU he) (by rw [hid];exact hb);obtain⟨us,h1,h2⟩:=Tc.list;have hlx:=hx.length;have hlu:=h1.length;have arG:=Hx agY h2;refine⟨cur,T,agY,by omega,?_⟩;have hbl: ∀ k,k ≠ b->(w.setRow b (cur.toList.take off++vs++cur.toList.drop (off+vs.length)).toArray).heap[k]? =w.heap[k]? :=fun k hk=>setRow_other w b k _ hk;have aaO:=setRow_heap w b cur (cur.toList.take off++vs++cur.toList.drop (off+vs.length)).toArray T (0,0) agY;have hk:Cf G G w (w.setRow b (cur.toList.take off++vs++cur.toList.drop (off+vs.length)).toArray):=
  ⟨by simp,fun k _ hw=>hbl k (fun q=>hw ((h.wr k).2 (by grind))),fun _ _ q=>q,fun i k h1 _=>by
   by_cases hkb:k=b
   ·subst hkb;intro adS T' fz' hq;grind
   grind [B7.same]⟩
 have ajA:(us.take off++vs++us.drop (off+vs.length))++cur.toList.drop us.length=(cur.toList.take off++vs++cur.toList.drop (off+vs.length)).toArray.toList :=by grind
 have ajB:=BA aaO ajA;have hl2:Ai w G (e.cs.take off++xs++e.cs.drop (off+xs.length)) (us.take off++vs++us.drop (off+vs.length)):=by rw [hlx];exact((h1.take off).append hx).append (h1.drop _)
 have ae4:=Am.aaY (Ai.mono hk _ _ (fun _ _=>⟨rfl,rfl⟩) hl2) ajB;have hlen:(e.cs.take off++xs++e.cs.drop (off+xs.length)).length =e.cs.length:=by simp;omega
 have av_:(cur.toList.take off++vs++cur.toList.drop (off+vs.length)).toArray.size =cur.size:=by simp;omega
 exact {
  dfr:=h.dfr,size:=h.size
  M_:=fun i=>Ad.mono hk _ _ (fun _ _=>⟨rfl,rfl⟩) (h.M_ i)
  Tk:=Aw.mono hk _ _ (fun _ _=>⟨rfl,rfl⟩) h.Tk
  store:=by
   intro e' he';simp only [St.adH,mem_map]at he';obtain⟨d,hd,rfl⟩:=he';split
   ·rename_i ajD;replace ajD:d.id=id:=by grind
    have:d=e:=by have hn:=h.nodup;have:=List.pairwise_map.1 hn;rcases mem_iff_getElem.1 hd with ⟨i,hi,rfl⟩;rcases mem_iff_getElem.1 hm with ⟨j,hj,rfl⟩;grind [List.pairwise_iff_getElem]
    subst this;have hE:=h.store d hd;unfold Ba at hE ⊢;simp only;split at hE
    ·rename_i hrn;obtain⟨b',q1,hbx⟩:=hE;obtain⟨T',adS,q2,q3,q4⟩:=hbx.cells (WU he hrn);rw [hid,hb]at q1;injection q1 with q1;subst q1;rw [agY]at q2;injection q2 with q2;injection q2 with q2a q2b;subst q2a q2b;exact⟨b,by grind, .inr ⟨T,_,aaO,by rw [av_,hlen];exact q3,ae4⟩⟩
    ·obtain⟨hl,v,q1,q2⟩:=hE;refine⟨by grind,v,q1,?_⟩;rcases q2 with q2 | ⟨b',cap,adS,e1,e2,e3,e4,e5,e6,e7⟩
     ·grind
     ·rw [hid,hb]at e2;injection e2 with e2;subst e2;rw [agY]at e3;injection e3 with e3;injection e3 with e3a e3b;subst e3a e3b;exact .inr ⟨b,cap,_,e1,by grind,aaO,e4,e5,by grind,ae4⟩
   ·rename_i ajD;replace ajD: ¬d.id=id:=by grind
    exact Cq hk (fun _ _=>⟨rfl,rfl⟩) ⟨rfl,rfl⟩ (fun k hk'=>hbl k (fun q=>ajD (h.inj _ _ k hk' (by grind)))) (h.store d hd)
  deep:=by
   intro e' he';simp only [St.adH,mem_map]at he';obtain⟨d,hd,rfl⟩:=he';split
   ·rename_i ajD;replace ajD:d.id=id:=by grind
    exact Bu.asP (h.deep d hd).1 (by grind [Fp])
   ·rename_i ajD;replace ajD: ¬d.id=id:=by grind
    refine Bu.mono hk ⟨rfl,rfl⟩ (by grind) (fun k hk'=>hbl k (fun q=>ajD (h.inj _ _ k hk' (by grind)))) (fun _ k b' hb'=>hbl b' (fun q=>?_)) (h.deep d hd);have h1:BL k d.id=id:=h.inj _ _ b' hb' (by grind);have h2:=(h.deep e hm).1;rw [hid, <-h1]at h2;cases h2
  P_:=by
   intro e' he';simp only [St.adH,mem_map]at he';obtain⟨d,hd,rfl⟩:=he';split
   ·rename_i ajD;replace ajD:d.id=id:=by grind
    have:d=e:=by have hn:=h.nodup;have:=List.pairwise_map.1 hn;rcases mem_iff_getElem.1 hd with ⟨i,hi,rfl⟩;rcases mem_iff_getElem.1 hm with ⟨j,hj,rfl⟩;grind [List.pairwise_iff_getElem]
    subst this;intro hq;simp only [and_eq_true]at hq;simp only [BR,and_eq_true];exact⟨⟨Mc _ (h.P_ d hd hq.1),hq.2⟩,Md _ (h.P_ d hd hq.1)⟩
   ·exact h.P_ d hd
  nodup:=by
   have:(st.adH id (e.cs.take off++xs++e.cs.drop (off+xs.length)) (Au xs)).so.map (·.id)=st.so.map (·.id):=by simp only [St.adH,map_map];apply List.map_congr_left;grind
   rw [this];exact h.nodup
  inj:=h.inj
  lt:=fun i k hi=>by simpa using h.lt i k hi
  new:=h.new,wr:=h.wr,abi:=h.abi,inv:=h.inv,aaI:=h.aaI
  os:=by simpa using h.os
  tape:=by simpa using h.tape
  output:=by simpa using h.output
  L_:=by simpa using h.L_
  ext:=fun k hk' hold=>(hbl k (fun q=>by
   rcases h.new id b hb with q2 | q2
   all_goals grind)).trans (h.ext k hk' hold)}
variable {E n len:Nat}
theorem Dy {e:AB} (Tc:e.row=some (E,n,len)) (h:Ba w G e):
 ∃ v vs,G.own e.id=some v/\v.oneCell'=true/\Ai w G e.cs vs/\((w.ownsRow 0 E n v len vs/\v.ownBlock=G.y_ e.id)\/ ∃ p,v= .slice (some p) 0 0/\len=0/\vs=[]/\G.y_ e.id=none):=by
 unfold Ba at h;rw [Tc]at h;obtain⟨hl,v,h1,h2⟩:=h;rcases h2 with ⟨p,rfl,h0,hb⟩ | ⟨b,cap,cur,rfl,e2,e3,e4,e5,e6,e7⟩
 ·have hcs:e.cs=[]:=by simp_all
  cases p with
  | none=>exact⟨_,[],h1,rfl,by rw [hcs];simp [Ai], .inl ⟨⟨by rw [h0];simp, .inl ⟨rfl,h0⟩⟩,by rw [hb];rfl⟩⟩
  | some p=>exact⟨_,[],h1,rfl,by rw [hcs];simp [Ai],(by grind)⟩
 ·obtain⟨us,q1,q2⟩:=e7.list;have hlu:=q1.length;have arG:=Hx e3 q2;refine⟨_,us,h1,rfl,q1, .inl ⟨⟨by omega, .inr ⟨b,cap,cur,rfl,zero_le _,e3,e4,e5,e6,?_⟩⟩,by rw [e2];rfl⟩⟩;grind
theorem R.anz {w':World} (h:R F st a w G) {id:Ah} {e:AB} (he:st.look id=some e) {m:Nat}
 {v v':Value} {xs:List Value} {cs:List C} {q:Bool} (hq:q=true->Au cs=true) (hob:v.ownBlock=G.y_ id) (h1:Ai w G e.cs xs) (h2:Ai w G cs us)
 (hold:w.ownsRow 0 E n v len xs) (aaO:w'.ownsRow 0 E n v' (len+m) (xs++us)) (hg:w.grownBy w' v.ownBlock) (hfr:v'.ownBlock=v.ownBlock\/ ∀ b,v'.ownBlock=some b->w.heap.size<=b):
 ∃ G',R F (st.new ⟨id,some (E,n,len+m),e.cs++cs,e.pu&&q⟩) a w' G'/\G'.own id=some v'/\v'.oneCell'=true:=by
 obtain⟨hm,hid⟩:=Bi he;have ab5: ∀ b,b<w.heap.size->G.y_ id ≠ some b->w'.heap[b]? =w.heap[b]? :=fun b hb hne=>hg.block b hb (by grind);have hn: ∀ b,v'.ownBlock=some b->w.heap.size<=b\/(G.y_ id=some b/\B7 w w' b):=by
  intro b hb;rcases hfr with q | q
  ·refine .inr ⟨by grind,?_⟩;have hb2:v.ownBlock=some b:=by grind
   intro cur T fz hc;rcases aaO.2 with ⟨r,_⟩ | ⟨g,cap,adS,r,_,r2,_⟩
   ·rw [r]at hb;cases hb
   ·rw [r]at hb;simp only [Value.ownBlock,injEq]at hb;subst hb;rcases hold.2 with ⟨r3,_⟩ | ⟨g3,azN,azL,r3,_,r4,_⟩
    all_goals grind [Value.ownBlock]
  grind
 have hlt: ∀ b,v'.ownBlock=some b->b<w'.heap.size:=fun b hb=>(aaO.lt b hb).2;have adj:v'.oneCell'=true:=by rcases aaO.2 with ⟨q,_⟩ | ⟨g,cap,cur,q,_⟩<;>rw [q]<;>rfl
 refine⟨B0 F G id v'.ownBlock (some v'),?_,by simp [B0],adj⟩;have hk:=h.keeps id v'.ownBlock (some v') hg.size ab5 hn;have hpq:(e.pu&&q)=true->Au (e.cs++cs)=true:=fun hx=>by simp only [and_eq_true]at hx;rw [BR,h.P_ e hm hx.1,hq hx.2];rfl
 have ay9:=Hw (row:=some (E,n,len+m)) h hk hpq (h1.append h2);refine h.set ⟨id,some (E,n,len+m),e.cs++cs,e.pu&&q⟩ v'.ownBlock (some v') ⟨hg.os,hg.tape,hg.output⟩ hg.size ab5 ?_ (by grind) hpq ?_
 ·intro b hb auk;refine ab5 b (lt_of_lt_of_le hb h.L_) (fun q=>?_);rcases h.new id b q with q2 | q2
  all_goals grind
 ·have hl:=h1.length;have hl2:=h2.length;have hln:=aaO.1;refine Jk (AB.ad0 _ _) ⟨by grind [NF],v',by simp [B0,AB.X_],?_⟩;rcases aaO.2 with ⟨q,h0⟩ | ⟨g,cap,cur,q,_,q2,q3,q4,q5,q6⟩
  ·simp_all [B0,Value.ownBlock,AB.X_]
  ·refine .inr ⟨g,cap,cur,q,by simp [B0,q,Value.ownBlock,AB.X_],q2,q3,q4,q5,?_⟩;grind [Am.aaY,BA,take_append_drop]
variable {P:Program}
theorem Ii (t ty e:TypeId) (i:TypeInfo) (z:Value) (size bytes:Nat) (ht:P.underlying t=some (.slice e)) (hi:P.info? e=some i) (hz:i.zero=some z)
 (L_:i.size=size) (hby:i.bytes=bytes) (hzs:z.cells.size=size) (hsz:0<size)
 (v:Value) (n:Nat) (xs:List Value) (aaK:w.ownsRow 0 e size v n xs)
 (a:Addr) (m c:Nat) (news:List Value) (hl:news.length=m*size) (aeu: ∀ j u,news[j]? =some u->w.cell? (a.add j)=some u) (h1: ∀ u∈news,u.oneCell'=true)
 (h63:n+m<=maxLen) (amj:(n+m)*bytes<=140737488355328):
 ∃ v' w',(Builtin.append_ #[t,t] ty #[v, .slice (some a) m c]).run P w= .ok v' w'/\w'.ownsRow 0 e size v' (n+m) (xs++news)/\w.grownBy w' v.ownBlock/\
   (v'.ownBlock=v.ownBlock\/ ∀ b,v'.ownBlock=some b->w.heap.size<=b):=by
 subst L_ hby
 have hM:maxLen=9223372036854775807:=rfl;have hlen:(xs++news).length =(n+m)*i.size:=by rw [List.length_append,aaK.1,hl, <-add_mul]
 have grown: ∀ old,old<n+m-> ∀ row,
  (w.drew.alloc (.cells (xs.toArray++news.toArray++Builtin.zeroCells z.cells (grownCap w (n+m) old e - (n+m))) e)).ownsRow 0 e i.size
   (.slice (some ⟨w.heap.size,0,none⟩) (n+m) (grownCap w (n+m) old e)) (n+m) (xs++news)/\
  w.grownBy (w.drew.alloc (.cells (xs.toArray++news.toArray++Builtin.zeroCells z.cells (grownCap w (n+m) old e - (n+m))) e)) row:=by
  intro old ho row;have hge:=grownCap_ge w (n+m) old e;have hcm:grownCap w (n+m) old e<=maxLen:=grownCap_le_maxLen w (n+m) old e h63;refine⟨⟨hlen, .inr ⟨w.heap.size,_,_,rfl,zero_le _,heap_alloc_new w.drew _,hge,hcm,?_,?_⟩⟩,⟨rfl,rfl,rfl,by simp,fun k hk _=>heap_alloc_old w.drew _ hk⟩⟩
  ·simp only [Array.size_append,List.size_toArray,size_zeroCells,hzs,aaK.1,hl, <-add_mul];grind
  grind
 rcases aaK.2 with ⟨rfl,rfl⟩ | ⟨g,cap,cur,rfl,hbg,hg,hnc,hcm,hcs,aue⟩
 ·have hx:xs=[]:=(by simp_all);subst hx;by_cases hm:m=0
  ·subst hm;have hn:news=[]:=(by grind);subst hn;refine⟨.slice none 0 0,w,?_,(by grind),⟨rfl,rfl,rfl,le_refl _,fun _ _ _=>rfl⟩, .inl rfl⟩;simp [Builtin.append_,run_underlying ht,sizeOf,typeInfo,hi,Builtin.lenOf,Builtin.firstCells,loadCells,loadCellsFrom]
  ·have hr:=run_append_nil (P:=P) w t ty e i z ht hi hz a m c news hl aeu (by omega) (by omega) (by grind);have hgr:=grown 0 (by omega) (Value.ownBlock (.slice none 0 0));simp only [Nat.zero_add,List.nil_append,Array.empty_append]at hgr ⊢;grind [Value.ownBlock]
 ·by_cases alm:n+m<=cap
  ·have ami:n*i.size+news.length<=cur.size:=by rw [hl,hcs, <-add_mul];simp_all [Nat.mul_le_mul_right]
   have hr:=run_append_room (P:=P) w t ty e i ht hi g n cap cur hg a m c news hl aeu h1 alm ami;refine⟨_,_,hr,⟨hlen, .inr ⟨g,cap,_,rfl,hbg,setRow_heap w g cur _ e _ hg,alm,hcm,?_,?_⟩⟩,⟨rfl,rfl,rfl,by simp,(by grind [setRow_other,Value.ownBlock])⟩, .inl rfl⟩
   all_goals grind
  ·have holds: ∀ j u,xs[j]? =some u->w.cell? ((⟨g,0,none⟩:Addr).add j)=some u:=aaK.cells (g:=g) rfl;have hr:=run_append_grow (P:=P) w t ty e i z ht hi hz ⟨g,0,none⟩ n cap xs aaK.1 holds a m c news hl aeu (by omega) (by omega) (growslice_fits (by omega) amj);have hgr:=grown cap (by omega) (Value.ownBlock (.slice (some ⟨g,0,none⟩) n cap));grind [Value.ownBlock]
theorem R.aqF (h:R F st a w G) {id:Ah} {e:AB} {p:Addr} (pu:Bool) (hcs:e.cs=[]):
 ∃ G',R F (st.new ⟨id,some (E,n,0+0),e.cs++[],pu⟩) a w G'/\G'.own id=some (.slice (some p) 0 0):=by
 refine⟨B0 F G id none (some (.slice (some p) 0 0)),?_,by simp [B0]⟩;rw [hcs];refine h.set ⟨id,some (E,n,0+0),[]++[],pu⟩ none _ ⟨rfl,rfl,rfl⟩ (le_refl _) (fun _ _ _=>rfl) (fun _ _ _=>rfl) (by grind) (fun _=>rfl) ?_;refine Jk (AB.ad0 _ _) ⟨by rw [NF];simp,_,by simp_all [B0,AB.X_], .inl ⟨some p,rfl,rfl,by simp [B0,AB.X_]⟩⟩
theorem Ij (t ty e:TypeId) (i:TypeInfo) (z:Value) (size bytes:Nat) (ht:P.underlying t=some (.slice e)) (hi:P.info? e=some i) (hz:i.zero=some z)
 (L_:i.size=size) (hby:i.bytes=bytes) (hzs:z.cells.size=size) (hsz:0<size) (p:Addr)
 (a:Addr) (m c:Nat) (news:List Value) (hl:news.length=m*size) (aeu: ∀ j u,news[j]? =some u->w.cell? (a.add j)=some u) (hm:0<m)
 (h63:m<=maxLen) (amj:m*bytes<=140737488355328):
 ∃ v' w',(Builtin.append_ #[t,t] ty #[.slice (some p) 0 0, .slice (some a) m c]).run P w= .ok v' w'/\w'.ownsRow 0 e size v' m news/\w.grownBy w' none/\
   ∀ b,v'.ownBlock=some b->w.heap.size<=b:=by
 subst L_ hby
 have hM:maxLen=9223372036854775807:=rfl;have hr:=run_append_grow (P:=P) w t ty e i z ht hi hz p 0 0 [] (by simp) (by grind) a m c news hl aeu (by omega) (by omega) (by simp_all [growslice_fits]);have hge:=grownCap_ge w (0+m) 0 e;have hcm:grownCap w (0+m) 0 e<=maxLen:=grownCap_le_maxLen w (0+m) 0 e (by omega);refine⟨_,_,hr,⟨hl, .inr ⟨w.heap.size,_,_,by simp,zero_le _,heap_alloc_new w.drew _,by grind,hcm,?_,?_⟩⟩,⟨rfl,rfl,rfl,by simp,fun k hk _=>heap_alloc_old w.drew _ hk⟩,(by grind [Value.ownBlock])⟩
 ·simp only [Array.size_append,List.size_toArray,size_zeroCells,hzs,hl, <-add_mul,List.length_nil,Nat.zero_add]at hge ⊢;grind
 grind
end Go.PL
namespace Go.PL
open Go Go.RowKit
mutual
def V.pure:V->Bool
 | .c x=>x.pure
 | .agg cs=>Au cs
 | .tup vs=>B9 vs
 | .g b v=> !b||v.pure
 | .undef =>true
def B9:List V->Bool
 | []=>true
 | v::vs=>v.pure&&B9 vs
end
mutual
theorem OQ (id:Ah): ∀ v:V,v.pure=true->v.E_ id=false
 | .c x,h=>by grind [V.E_,HG,V.pure]
 | .agg cs,h=>by grind [V.E_,AU,V.pure]
 | .tup vs,h=>by simp only [V.E_];exact Xp id vs (by simpa only [V.pure] using h)
 | .g b v,h=>by
   cases b with
   | false=>simp [V.E_]
   | true=>simp only [V.pure,Bool.not_true,Bool.false_or]at h;simp [V.E_,OQ id v h]
 | .undef,_=>by simp [V.E_]
theorem Xp (id:Ah): ∀ vs:List V,B9 vs=true->KN id vs=false
 | [],_=>by simp [KN]
 | v::vs,h=>by simp only [B9,and_eq_true]at h;simp [KN,OQ id v h.1,Xp id vs h.2]
end
def im (av:Nat->Prop):AJ:=⟨fun _=>none,fun _=>none,av⟩
variable {w:World} {av:Nat->Prop} {G:AJ} {x:V} {v:Value}
theorem Xq (hG: ∀ b,b<w.heap.size->G.wr b->av b) (hp:x.pure=true) (h:Ad w (im av) x v):Ad w G x v:=
 Ad.mono (G:=im av) (G':=G) ⟨le_refl _,fun _ _ _=>rfl,fun b hb hw=>hG b hb hw,fun _ _ _ _=>B7.same rfl⟩ x v (fun id hid=>absurd (show x.E_ id=true from hid) (by rw [OQ id x hp];simp)) h
theorem rN (hG: ∀ b,b<w.heap.size->av b->G.wr b) (hp:x.pure=true) (h:Ad w G x v):Ad w (im av) x v:=
 Ad.mono (G:=G) (G':=im av) ⟨le_refl _,fun _ _ _=>rfl,fun b hb hw=>hG b hb hw,fun _ _ _ _=>B7.same rfl⟩ x v (fun id hid=>absurd (show x.E_ id=true from hid) (by rw [OQ id x hp];simp)) h
def Ka (id:Ah) (len:Nat) (cs:List C):C->C
 | .n_ i=>if i=id then .sl len cs else .n_ i
 | .ptr i o=>if i=id then .any else .ptr i o
 | .bsl i o n=>if i=id then .any else .bsl i o n
 | .rsl i N o n=>if i=id then .any else .rsl i N o n
 | .bld i T=>if i=id then .any else .bld i T
 | .agP i=>if i=id then .any else .agP i
 | .clo f ds=>if BO id ds then .any else .clo f ds
 | .bmv f ds=>if BO id ds then .any else .bmv f ds
 | c=>c
mutual
def Lz (id:Ah) (len:Nat) (cs:List C):V->V
 | .c x=> .c (Ka id len cs x)
 | .agg ds=> .agg (ds.map (Ka id len cs))
 | .tup vs=> .tup (M6 id len cs vs)
 | .g b v=> .g b (Lz id len cs v)
 | .undef => .undef
def M6 (id:Ah) (len:Nat) (cs:List C):List V->List V
 | []=>[]
 | v::vs=>Lz id len cs v::M6 id len cs vs
end
def AB.frz (id:Ah) (len:Nat) (cs:List C) (e:AB):AB:=match e with
 | ⟨i,r,ds,true⟩=>⟨i,r,ds,true⟩
 | ⟨i,r,ds,false⟩=>⟨i,r,ds.map (Ka id len cs),false⟩
theorem AB.aml (id:Ah) (len:Nat) (cs:List C) (e:AB):(e.frz id len cs).id =e.id:=by obtain⟨i,r,cs,_ | _⟩:=e<;>rfl
variable {len:Nat}
theorem AB.awj {id:Ah} {cs:List C} {e:AB} {kv:List (Int×Int)} (h:e.cs=[.mp kv]):(e.frz id len cs).cs =[.mp kv]:=by
 obtain⟨i,r,ds,_ | _⟩:=e
 ·simp only at h;subst h;rfl
 ·exact h
theorem AB.ats (id:Ah) (len:Nat) (cs:List C) (e:AB):(e.frz id len cs).row =e.row:=by obtain⟨i,r,cs,_ | _⟩:=e<;>rfl
def St.freeze (st:St) (id:Ah):St:=
 match st.look id with
 | some e=>match e.row with
   | some (_,_,len)=>if !e.pu then st else
    {tm:=st.tm.map (Lz id len e.cs),so:=(st.so.filter (fun d=>d.id != id)).map (AB.frz id len e.cs),gh:=M6 id len e.cs st.gh,pre:=st.pre}
   | none=>st
 | none=>st
section
variable {F:Fr} {w:World} {G:AJ} {id:Ah} {len:Nat} {cs:List C}
structure Frz (F:Fr) (w:World) (G:AJ) (id:Ah) (len:Nat) (cs:List C):Prop where
 own: ∀ v,G.own id=some v->Af w (B0 F G id none none) (.sl len cs) v
 keeps:Cf G (B0 F G id none none) w w
theorem km (hf:Frz F w G id len cs) {c:C} {v:Value} (h:Af w G c v):Af w (B0 F G id none none) (Ka id len cs c) v:=by
 have hm: ∀ d:C,d.E_ id=false->Af w G d v->Af w (B0 F G id none none) d v:=fun d hd hr=>
  Af.mono hf.keeps d v (by grind [Dm]) hr
 cases c with
 | n_ i=>
   simp only [Ka];split
   ·rename_i hi;subst hi;simp only [Af]at h;exact hf.own v h.1
   grind [C.E_]
 | ptr i o=>
   simp only [Ka];split
   ·simp only [Af];exact h.one
   grind [C.E_]
 | bsl i o n=>
   simp only [Ka];split
   ·simp only [Af];exact h.one
   grind [C.E_]
 | rsl i N o n=>
   simp only [Ka];split
   ·simp only [Af];exact h.one
   grind [C.E_]
 | bld i T=>
   simp only [Ka];split
   ·simp only [Af];exact h.one
   grind [C.E_]
 | sl l ds=>exact hm (.sl l ds) (by simp [C.E_]) h
 | acm ds o=>exact hm (.acm ds o) (by simp [C.E_]) h
 | int k n=>exact hm (.int k n) (by simp [C.E_]) h
 | bool b=>exact hm (.bool b) (by simp [C.E_]) h
 | str s=>exact hm (.str s) (by simp [C.E_]) h
 | acV=>exact hm (.acV) (by simp [C.E_]) h
 | aaJ=>exact hm (.aaJ) (by simp [C.E_]) h
 | Tv=>exact hm (.Tv) (by simp [C.E_]) h
 | fn f=>exact hm (.fn f) (by simp [C.E_]) h
 | clo f ds=>
   simp only [Ka];split
   ·simp only [Af];exact h.one
   grind [C.E_]
 | bmv f ds=>
   simp only [Ka];split
   ·simp only [Af];exact h.one
   grind [C.E_]
 | held=>exact hm (.held) (by simp [C.E_]) h
 | any=>exact hm (.any) (by simp [C.E_]) h
 | agP i=>
   simp only [Ka];split
   ·simp only [Af];exact h.one
   grind [C.E_]
 | mp kv=>exact hm (.mp kv) (by simp [C.E_]) h
 | agZ g o=>exact hm (.agZ g o) (by simp [C.E_]) h
 | isl E n l ds=>exact hm (.isl E n l ds) (by simp [C.E_]) h
theorem Xr (hf:Frz F w G id len cs): ∀ {ds:List C} {vs:List Value},Ai w G ds vs->Ai w (B0 F G id none none) (ds.map (Ka id len cs)) vs
 | [],[],_=>by simp [Ai]
 | [],_::_,h=>by simp [Ai]at h
 | _::_,[],h=>by simp [Ai]at h
 | c::ds,v::vs,h=>by simp only [Ai]at h;simp only [map_cons,Ai];exact⟨km hf h.1,Xr hf h.2⟩
mutual
theorem Xs (hf:Frz F w G id len cs): ∀ (x:V) (v:Value),Ad w G x v->Ad w (B0 F G id none none) (Lz id len cs x) v
 | .c x,v,h=>by grind [Ad,Lz,km]
 | .agg ds,v,h=>by grind [Ad,Lz,Xr]
 | .tup vs,v,h=>by simp only [Ad,Lz]at h ⊢;obtain⟨arr,e,hr⟩:=h;exact⟨arr,e,S9 hf vs _ hr⟩
 | .g b x,v,h=>by
   simp only [Ad,Lz]at h ⊢;split
   all_goals simp_all [Xs]
 | .undef,_,_=>by simp only [Ad,Lz]
theorem S9 (hf:Frz F w G id len cs): ∀ (xs:List V) (vs:List Value),Aw w G xs vs->Aw w (B0 F G id none none) (M6 id len cs xs) vs
 | [],_,h=>by grind [Aw,M6]
 | x::xs,vs,h=>by simp only [Aw,M6]at h ⊢;obtain⟨v,r,e,h1,h2⟩:=h;exact⟨v,r,e,Xs hf x v h1,S9 hf xs r h2⟩
end
end
variable {F:Fr} {st:St} {a:Act}
theorem R.frz (h:R F st a w G) {id:Ah} {e:AB} (he:st.look id=some e) {E n:Nat} (Tc:e.row=some (E,n,len)) (hpu:Au e.cs=true):
 Frz F w G id len e.cs where
 keeps:=h.keeps id none none (le_refl _) (fun _ _ _=>rfl) (by grind)
 own:=by
  intro v hv;obtain⟨hm,hid⟩:=Bi he;have hE:=h.store e hm;unfold Ba at hE;rw [Tc]at hE;obtain⟨hl,v',h1,h2⟩:=hE;rw [hid,hv]at h1;injection h1 with h1;subst h1;have aDu:=AU id e.cs hpu;simp only [Af];refine⟨hpu,?_⟩;rcases h2 with ⟨p,rfl,h0,_⟩ | ⟨b,cap,cur,rfl,e2,e3,e4,e5,e6,e7⟩
  ·refine⟨p,0,by rw [h0],by omega,by grind,fun _=>?_, .inl h0⟩;simp_all
  ·rw [hid]at e2;refine⟨_,cap,rfl,e4,e5,fun h0=>?_, .inr ⟨b,0,rfl,?_,h.lt id b e2,?_⟩⟩
   ·simp_all
   ·simp only [B0];rintro(q | ⟨i,q⟩)
    ·rcases h.new id b e2 with q2 | q2
     ·have:=h.abi b q;omega
     ·exact h.aaI b q2 q
    ·split at q
     ·cases q
     ·rename_i hi;exact hi (h.inj i id b q e2)
   ·have hk:=h.keeps id none none (le_refl _) (fun _ _ _=>rfl) (by grind);exact Am.mono hk _ _ _ (by grind [Dm]) (fun _=>rfl) e7
def St.acU (st:St) (id:Ah):Bool:=
 match st.look id with
 | some e=>match e.row with
   | some _=>e.pu
   | none=>false
 | none=>false
theorem R.freeze (h:R F st a w G) (id:Ah):
 ∃ G',R F (st.freeze id) a w G'/\(∀ b,G'.wr b->G.wr b)/\(st.acU id=true-> ∀ b,G.y_ id=some b-> ¬G'.wr b):=by
 have hid: ∀ b,G.wr b->G.wr b:=fun _ q=>q;unfold St.freeze;split
 ·rename_i e he;split
  ·rename_i E n len Tc;split
   ·grind [St.acU]
   ·rename_i aDu;have hm0:=(Bi he).1;have hf:=h.frz he Tc (h.P_ e hm0 (by grind));refine⟨B0 F G id none none,h.rename id none none ⟨rfl,rfl,rfl⟩ (le_refl _) (fun _ _ _=>rfl) (by grind) _ (by simp) ?_ ?_ ?_ ?_ ?_ ?_,?_,?_⟩
    rotate_right 2
    ·intro b hb;simp only [B0]at hb;rw [h.wr];grind
    ·intro _ b hb hw;simp only [B0]at hw;rcases hw with q | ⟨i,q⟩
     ·rcases h.new id b hb with q2 | q2
      ·have:=h.abi b q;omega
      ·exact h.aaI b q2 q
     ·split at q
      ·cases q
      ·rename_i hi;exact hi (h.inj i id b q hb)
    ·intro i;simp only;rw [FN (st:=st) (by simp [Lz])];exact Xs hf _ _ (h.M_ i)
    ·exact S9 hf _ _ h.Tk
    ·intro d hd;simp only [mem_map,mem_filter]at hd;obtain⟨d',⟨hd',hne⟩,rfl⟩:=hd;have:=h.P_ d' hd';obtain⟨i,r,ds,pu⟩:=d';cases pu with
     | true=>exact this
     | false=>intro hq;cases hq
    ·intro d hd;simp only [mem_map,mem_filter]at hd;obtain⟨d',⟨hd',hne⟩,rfl⟩:=hd;have ad4:d'.id ≠ id:=by grind
     have hE:=h.store d' hd';have hpd:=h.P_ d' hd';have Tc: ∀ {b o},Am w G d'.cs b o->Am w (B0 F G id none none) (d'.frz id len e.cs).cs b o:=fun hr=>by
      obtain⟨vs,q1,q2⟩:=hr.list;obtain⟨i,r,ds,pu⟩:=d';cases pu with
      | true=>exact Am.mono hf.keeps _ _ _ (Dm (fun j hj he=>by subst he;have hj':BO j ds=true:=hj;rw [AU j ds (hpd rfl)]at hj';cases hj')) (fun _=>rfl) hr
      | false=>exact Am.aaY (Xr hf q1) q2
     have hlen:(d'.frz id len e.cs).cs.length =d'.cs.length:=by obtain⟨i,r,ds,_ | _⟩:=d'<;>simp [AB.frz]
     have hfi:=AB.aml id len e.cs d';have hfr:=AB.ats id len e.cs d';unfold Ba at hE ⊢;rw [hfr];have eb:(B0 F G id none none).y_ d'.id=G.y_ d'.id:=by simp [B0,ad4]
     have eo:(B0 F G id none none).own d'.id=G.own d'.id:=by simp [B0,ad4]
     rw [hfi,eb,eo];split at hE
     ·obtain⟨b,q1,q2⟩:=hE;refine⟨b,q1,?_⟩;rcases q2 with ⟨kv,es,q2,q3⟩ | ⟨T,cur,q2,q3,q4⟩
      ·exact .inl ⟨kv,es,AB.awj q2,q3⟩
      ·exact .inr ⟨T,cur,q2,by rw [hlen];exact q3,Tc q4⟩
     ·obtain⟨hl,v,q1,q2⟩:=hE;refine⟨by grind,v,q1,?_⟩;rcases q2 with q2 | ⟨b,cap,cur,e1,e2,e3,e4,e5,e6,e7⟩
      ·grind
      ·exact .inr ⟨b,cap,cur,e1,e2,e3,e4,e5,e6,Tc e7⟩
    ·intro d hd;simp only [mem_map,mem_filter]at hd;obtain⟨d',⟨hd',hne⟩,rfl⟩:=hd;have ad4:d'.id ≠ id:=by grind
     have hmk: ∀ k,BL k d'.id ≠ id:=fun k q=>by have h2:=(h.deep e hm0).1;rw [(Bi he).2, <-q]at h2;cases h2
     have hD:Bu w G (d'.frz id len e.cs):=by
      have h1:=h.deep d' hd';obtain⟨i,r,ds,pu⟩:=d';cases pu with
      | true=>exact h1
      | false=>exact⟨h1.1,fun hq=>absurd (h1.2 hq).1 (by simp)⟩
     have hfi:=AB.aml id len e.cs d';exact Bu.mono hf.keeps (by grind [B0]) (by grind [B0]) (fun _ _=>rfl) (fun _ _ _ _=>rfl) hD
    ·have:(((st.so.filter (fun d=>d.id != id)).map (AB.frz id len e.cs)).map (·.id))=(st.so.filter (fun d=>d.id != id)).map (·.id):=by simp_all [AB.aml]
     simp only;rw [this];exact List.Sublist.nodup (by grind [List.filter_sublist]) h.nodup
  grind [St.acU]
 grind [St.acU]
end Go.PL
namespace Go.PL
open Go Go.RowKit
variable {w:World} {G:AJ}
theorem UU: ∀ {cs:List C} {vs:List Value},cs.length=vs.length->(∀ (i:Nat) (c:C) (v:Value),cs[i]? =some c->vs[i]? =some v->Af w G c v)->Ai w G cs vs
 | [],[],_,_=>by simp [Ai]
 | [],_::_,h,_=>by simp at h
 | _::_,[],h,_=>by simp at h
 | c::cs,v::vs,h,hr=>by simp only [Ai];exact⟨hr 0 c v (by simp) (by simp),UU (by simpa using h) (fun i c' v' h1 h2=>hr (i+1) c' v' (by simpa using h1) (by simpa using h2))⟩
def Ca (z:List C) (k:Nat):List C:=(List.range (k*z.length)).map (fun i=>z.getD (i % z.length) .any)
variable {z:List C}
theorem LA {zv:Array Value} (h:Ai w G z zv.toList) (hz:0<z.length) (k:Nat):
 Ai w G (Ca z k) ((Array.range (k*zv.size)).map (zv[· % zv.size]!)).toList :=by
 have hl:z.length=zv.size:=by simpa using h.length
 refine UU (by simp [Ca,hl]) (fun i c v h1 h2=>?_);simp only [Ca,List.getElem?_map]at h1;simp only [Array.toList_map,List.getElem?_map,Array.toList_range]at h2;by_cases hi:i<k*z.length
 ·rw [List.getElem?_range (by omega)]at h1;rw [List.getElem?_range (by rw [<-hl];omega)]at h2;simp only [map_some,injEq]at h1 h2;have hm:i % z.length<z.length:=Nat.mod_lt _ hz;obtain⟨v',q1,q2⟩:=h.get (i % z.length) z[i % z.length] (by simp [hm]);grind
 grind
theorem kn: ∀ {v:Value} {c:C},CJ v=some c->c.pure=true:=by intro v c h;unfold CJ at h;split at h<;>first | (cases h;done) | (injection h with h;subst h;rfl)
theorem UV: ∀ {vs:List Value} {cs:List C},DZ vs=some cs->Au cs=true
 | [],cs,h=>by simp [DZ]at h;subst h;rfl
 | v::vs,cs,h=>by
   unfold DZ at h;split at h
   ·rename_i c cs' h1 h2;injection h with h;subst h;simp only [Au,kn h1,UV h2,Bool.and_self]
   ·cases h
theorem UW (h:Au z=true) (k:Nat):Au (Ca z k)=true:=OO _ (fun _=>tP _ h) _
def Xt:Value->Option C
 | .slice none 0 0=>some .Tv
 | v=>CJ v
def Iy:List Value->Option (List C)
 | []=>some []
 | v::vs=>match Xt v,Iy vs with
   | some c,some cs=>some (c::cs)
   | _,_=>none
theorem ko: ∀ {v:Value} {c:C},Xt v=some c->Af w G c v:=by grind [Xt,Af,P7]
theorem Kj: ∀ {vs:List Value} {cs:List C},Iy vs=some cs->Ai w G cs vs
 | [],cs,h=>by grind [Iy,Ai]
 | v::vs,cs,h=>by
   unfold Iy at h;split at h
   ·rename_i c cs' h1 h2;injection h with h;subst h;simp only [Ai];exact⟨ko h1,Kj h2⟩
   ·cases h
def Xu (P:Program) (t:TypeId):Option (List C):=
 match P.info? t with
 | some i=>match i.zero with
   | some z=>Iy z.cells.toList
   | none=>none
 | none=>none
variable {P:Program} {t:TypeId} {cs:List C}
theorem Qf (h:Xu P t=some cs): ∃ i z,P.info? t=some i/\i.zero=some z/\Iy z.cells.toList=some cs:=by grind [Xu]
def GO:C->C
 | .Tv => .sl 0 []
 | c=>c
def V.agz:V->V
 | .c x=> .c (GO x)
 | .agg cs=> .agg (cs.map GO)
 | v=>v
def UX (p:Nat×V):Nat×V:=(p.1,p.2.agz)
variable {v:Value}
theorem IY {c:C} (h:Af w G c v):Af w G (GO c) v:=by
 cases c<;>try exact h
 simp only [Af]at h;subst h;simp only [GO,Af];exact⟨rfl,none,0,rfl,le_refl _,zero_le _,fun _=>trivial, .inl trivial⟩
theorem TA: ∀ {cs:List C} {vs:List Value},Ai w G cs vs->Ai w G (cs.map GO) vs
 | [],[],_=>by simp [Ai]
 | [],_::_,h=>by grind
 | _::_,[],h=>by simp [Ai]at h
 | c::cs,v::vs,h=>by simp only [Ai]at h;simp only [map_cons,Ai];exact⟨IY h.1,TA h.2⟩
variable {x:V}
theorem tU (h:Ad w G x v):Ad w G x.agz v:=by cases x<;>grind [V.agz,Ad,IY,TA]
structure Eff (P:Program) (F:Fr) (o:Oper) (a:Act) (w:World) (d_:St):Prop where
 out: ∃ nx w' G',(execOp a.eval o).run P w= .ok nx w'/\((∃ v,nx= .value v/\R F d_ (a.put o.dst v) w' G')\/(nx= .skip /\R F d_ (a.put o.dst Go.undef) w' G'))
def St.parts (st:St) (g:Bool) (ps:List (Nat×Operand)):Prop×List (Nat×V):=
 match ps with
 | []=>(True,[])
 | (i,x)::r=>((st.arg g x).1/\(St.parts st g r).1,(i,(st.arg g x).2)::(St.parts st g r).2)
variable {F:Fr} {st:St} {a:Act} {g:Bool}
theorem R.parts (h:R F st a w G) (hg:g=true): ∀ {ps:List (Nat×Operand)},(st.parts g ps).1->Ni w G (st.parts g ps).2 (ps.map fun(i,x)=>(i,a.eval x))
 | [],_=>by simp [St.parts,Ni]
 | (i,x)::r,hs=>by simp only [St.parts]at hs ⊢;simp only [map_cons,Ni];exact⟨trivial,h.arg hg hs.1,h.parts hg hs.2⟩
def plc (P:Program) (t:TypeId) (i:Nat):Option (Nat×Nat):=
 match P.underlying t with
 | some (.array _ e)=>match P.info? e with
   | some inf=>some (i*inf.size,inf.size)
   | none=>none
 | some (.struct fs)=>match fs.toList.mapM (fun f=>(P.info? f.type).map fun i=>(f.offset,i.size))with
   | some ps=>ps[i]?
   | none=>none
 | _=>none
def wq (P:Program) (t:TypeId):Bool:=
 match P.underlying t with
 | some (.array _ e)=>(P.info? e).isSome
 | some (.struct fs)=>(fs.toList.mapM (fun f=>(P.info? f.type).map fun i=>(f.offset,i.size))).isSome
 | _=>false
def NG (P:Program) (st:St) (g:Bool) (t:TypeId) (ps:List (Nat×Operand)):Prop×V:=
 match Xu P t with
 | some z=>match Jm (plc P t) z (st.parts g ps).2 with
   | some cs=>((st.parts g ps).1/\wq P t=true, .agg cs)
   | none=>no
 | none=>no
def Ra (st:St) (n:Nat):V->Option (Nat×List C×Bool)
 | .c (.sl m cs)=>if cs.length=m*n then some (m,cs,true)else none
 | .c (.n_ id)=>match st.look id with
   | some e=>match e.row with
     | some (_,n',m)=>if n'=n then some (m,e.cs,e.pu)else none
     | none=>none
   | none=>none
 | _=>none
def Ed (P:Program) (t:TypeId):Option (TypeId×Nat×Nat):=
 match P.underlying t with
 | some (.slice e)=>match P.info? e with
   | some i=>match i.zero with
     | some z=>if z.cells.size=i.size then some (e,i.size,i.bytes)else none
     | none=>none
   | none=>none
 | _=>none
def G4 (P:Program) (st:St) (T:TypeId) (x y:V):Prop×St:=
 match x,y.cells,KO P T with
 | .c (.ptr id off),some cs,some (_,n)=>match st.look id with
   | some e=>(cs.length=n/\off+n<=e.cs.length,st.adH id (e.cs.take off++cs++e.cs.drop (off+cs.length)) (Au cs))
   | none=>(False,st)
 | _,_,_=>(False,st)
def Gf (P:Program) (st:St) (d:Nat) (t:TypeId) (s x:V):Prop×St:=
 match s,Ed P t with
 | .c (.n_ id),some (E,n,by')=>match st.look id,Ra st n x with
   | some e,some (m,cs,q)=>match e.row with
     | some (E',n',len)=>(E'=E/\n'=n/\0<n/\(len+m)*by'<=140737488355328/\len+m<=maxLen,(st.new ⟨id,some (E,n,len+m),e.cs++cs,e.pu&&q⟩).put (some d) (.c (.n_ id)))
     | none=>(False,st)
   | _,_=>(False,st)
 | _,_=>(False,st)
def UY (P:Program) (st:St) (d:Nat) (t:TypeId) (x y:V):Prop×St:=
 match x,y,Dj P t with
 | .c (.bsl id off len), .c (.bsl id2 agO abU),some (_,1)=>match st.look id,st.look id2 with
   | some e,some e2=>(off+Nat.min abU len<=e.cs.length/\agO+Nat.min abU len<=e2.cs.length,
    (st.adH id (e.cs.take off++(e2.cs.drop agO).take (Nat.min abU len)++e.cs.drop (off+((e2.cs.drop agO).take (Nat.min abU len)).length)) (Au ((e2.cs.drop agO).take (Nat.min abU len)))).put (some d) (.c (.int .i64 (Nat.min abU len:Nat))))
   | _,_=>(False,st)
 | _,_,_=>(False,st)
def Kk (P:Program) (st:St) (d:Nat) (t:TypeId) (l c:V):Prop×St:=
 match l,c,Ed P t with
 | .c (.int _ l), .c (.int _ c),some (E,n,by')=>match PD P E with
   | some z=>(0<=l/\l<=c/\c*by'<=140737488355328/\c<=maxLen/\z.length=n/\0<n,(st.new ⟨d::st.pre,some (E,n,l.toNat),Ca z l.toNat,true⟩).put (some d) (.c (.n_ (d::st.pre))))
   | none=>(False,st)
 | _,_,_=>(False,st)
def Bf (P:Program) (st:St) (d:Nat) (t:TypeId) (len:Nat) (ps:List (Nat×Operand)):Prop×St:=
 match Ed P t with
 | some (E,n,_)=>match PD P E with
   | some z=>match Jm (fun i=>some (i*n,n)) (Ca z len) ((st.parts true ps).2.map UX)with
     | some cs=>((st.parts true ps).1/\z.length=n/\0<n/\len*n<=2 ^ 24,(st.new ⟨d::st.pre,some (E,n,len),cs,Au cs⟩).put (some d) (.c (.n_ (d::st.pre))))
     | none=>(False,st)
   | none=>(False,st)
 | none=>(False,st)
def oJ:Operand->V->V
 | .const (.slice none 0 0),_=> .c .Tv
 | _,v=>v
def V5 (st:St) (x v:V):V:=
 match v with
 | .c .Tv =>match x with
   | .c (.ptr id _)=>match st.look id with
     | some e=>match e.row with
       | some _=> .c (.sl 0 [])
       | none=>v
     | none=>v
   | _=>v
 | _=>v
variable {u:Value}
theorem kp {v:V} (h:Ad w G v u):Ad w G (V5 st x v) u:=by
 unfold V5;split
 ·have h2:Ad w G (.c (.sl 0 [])) u:=by simp only [Ad]at h ⊢;exact IY h
  grind
 ·exact h
theorem kq {y:Operand} {v:V} (h:Ad w G v (a.eval y)):Ad w G (oJ y v) (a.eval y):=by
 unfold oJ;split
 ·simp only [Ad,Af];rfl
 ·exact h
def ef (P:Program) (st:St) (o:Oper):Prop×St:=
 match o.op with
 | .store T x y=>let r:=G4 P st T (st.arg true x).2 (V5 st (st.arg true x).2 (oJ y (st.arg true y).2))
   ((st.arg true x).1/\(st.arg true y).1/\r.1,r.2.put o.dst .undef)
 | op=>match o.dst with
   | none=>(False,st)
   | some d=>match op with
     | .alloc T=>match Xu P T with
       | some cs=>(True,(st.new ⟨d::st.pre,none,cs,false⟩).put (some d) (.c (.ptr (d::st.pre) 0)))
       | none=>(False,st)
     | .box T x=>match (st.arg true x).2.cells with
       | some cs=>((st.arg true x).1/\T=T,(st.new ⟨d::st.pre,none,cs,false⟩).put (some d) (.c (.ptr (d::st.pre) 0)))
       | none=>(False,st)
     | .assign (.const (.slice none 0 0))=>match Dj P o.type with
       | some (E,n)=>(True,(st.new ⟨d::st.pre,some (E,n,0),[],true⟩).put (some d) (.c (.n_ (d::st.pre))))
       | none=>(False,st)
     | .buildSlice t len ps=>Bf P st d t len ps.toList
     | .makeSlice t l c=>let r:=Kk P st d t (st.arg true l).2 (st.arg true c).2
       ((st.arg true l).1/\(st.arg true c).1/\r.1,r.2)
     | .call c=>match c.callee,c.args.toList,c.argTypes.toList with
       | .builtin .append,[s,x],[t,t']=>let r:=Gf P st d t (st.arg true s).2 (st.arg true x).2
         ((st.arg true s).1/\(st.arg true x).1/\t=t'/\r.1,r.2)
       | .builtin .copy,[s,x],[t,t']=>let r:=UY P st d t (st.arg true s).2 (st.arg true x).2
         ((st.arg true s).1/\(st.arg true x).1/\t'=t'/\r.1,r.2)
       | _,_,_=>(False,st)
     | _=>(False,st)
theorem OR: ∀ {xs:List (Nat×V)} {ys:List (Nat×Value)},Ni w G xs ys->Ni w G (xs.map UX) ys
 | [],[],h=>h
 | (i,x)::xs,(j,v)::ys,h=>by simp only [Ni]at h;simp only [map_cons,UX,Ni];exact⟨h.1,tU h.2.1,OR h.2.2⟩
 | [],_::_,h=>by grind
 | _::_,[],h=>by simp [Ni]at h
variable {ps:Array (Nat×Operand)}
theorem gx (h:R F st a w G) (hg:g=true) (hs:(NG P st g t ps.toList).1):
 ∃ v,Ad w G (NG P st g t ps.toList).2 v/\ ∀ w',(Instr.build t (ps.map fun(i,x)=>(i,a.eval x))).run P w'= .ok v w':=by
 unfold NG at *;split at hs
 ·rename_i z hz;split at hs
  ·rename_i cs hf;obtain⟨i,zv,hi,hzv,hc⟩:=Qf hz;obtain⟨abN,q1,q2⟩:=Jn hf (h.parts hg hs.1) (Kj (w:=w) (G:=G) hc);refine⟨.agg abN,⟨abN,rfl,q2⟩,fun w'=>run_build w' t _ abN ?_⟩;have hok:=hs.2;unfold wq at hok;unfold Program.built;rw [hi];split at hok
   ·rename_i n e hu;cases hie:P.info? e with
    | none=>grind
    | some ie=>
      simp only [hu,hzv,hie];have e1:plc P t=fun i=>some (i*ie.size,ie.size):=by grind [plc]
      simp_all
   ·rename_i fs hu;cases hm:fs.toList.mapM (fun f=>(P.info? f.type).map fun i=>(f.offset,i.size))with
    | none=>grind
    | some pl=>
      simp only [hu,hzv,hm];have e1:plc P t=fun i=>pl[i]? :=by grind [plc]
      simp_all
   ·cases hok
  grind
 grind
variable {n by':Nat}
theorem Dz {e:TypeId} (h:Ed P t=some (e,n,by')):
 ∃ i z,P.underlying t=some (.slice e)/\P.info? e=some i/\i.zero=some z/\i.size=n/\i.bytes=by'/\z.cells.size=n:=by
 unfold Ed at h;grind
variable {y:V}
theorem Rb (h:R F st a w G) {T:TypeId} (hx:Ad w G x u) (hy:Ad w G y v) (hs:(G4 P st T x y).1):
 ∃ w',(Instr.storeAt T u v).run P w= .ok () w'/\R F (G4 P st T x y).2 a w' G:=by
 unfold G4 at *;split at hs
 ·rename_i id off cs ag n hc ht;split at hs
  ·rename_i e he;obtain⟨h1,h2⟩:=hs;obtain⟨d,i,hu,hd,hi,hsz⟩:=Dl ht;simp only [Ad,Af]at hx;obtain⟨b,hb,rfl⟩:=hx;have hv:=Jl hy hc;have hlv:=hv.length;obtain⟨cur,T',agY,ami,hR⟩:=h.stored he hb (off:=off) (xs:=cs) hv (by omega);refine⟨_,?_,hR⟩;have hst:=run_storeCells_at P b off T' v.cells.toList 0 cur w agY (by simpa using ami) (Ai.one hv);simp only [add_zero]at hst;simp_all [Instr.storeAt,Instr.sureAddr,storeVar,sizeOf,typeInfo]
  grind
 grind
theorem kr (h:R F st a w G) {m:Nat} {q:Bool} (hs:Ra st n x=some (m,cs,q)) (hx:Ad w G x u):
 (q=true->Au cs=true)/\ ∃ ad cap vs,u= .slice ad m cap/\Ai w G cs vs/\vs.length=m*n/\(ad=none->m=0)/\ ∀ b,ad=some b-> ∀ j v,vs[j]? =some v->w.cell? (b.add j)=some v:=by
 unfold Ra at hs;split at hs
 ·split at hs
  ·rename_i hl;simp only [injEq,Prod.mk.injEq]at hs;obtain⟨rfl,rfl,rfl⟩:=hs;simp only [Ad,Af]at hx;refine⟨fun _=>hx.1,?_⟩;obtain⟨_,ad,cap,rfl,_,_,h0,h1 | ⟨b,o,rfl,_,_,hr⟩⟩:=hx
   ·have:=h0 h1;subst this;exact⟨ad,cap,[],rfl,by simp [Ai],by grind,fun _=>h1,(by grind)⟩
   ·obtain⟨vs,q1,q2⟩:=hr.list;have:=q1.length;exact⟨_,cap,vs,rfl,q1,by omega,(by simp),fun b' hb' j v hv=>by injection hb' with hb';subst hb';rw [Addr.add_mid];exact q2 j v hv⟩
  ·cases hs
 ·split at hs
  ·rename_i e hlk;split at hs
   ·rename_i E n' m' Tc;split at hs
    ·rename_i hn;simp only [injEq,Prod.mk.injEq]at hs;obtain⟨rfl,rfl,rfl⟩:=hs;obtain⟨hm,hid⟩:=Bi hlk;refine⟨h.P_ e hm,?_⟩;have hE:=h.store e hm;obtain⟨v,vs,k1,k2,k3,k4⟩:=Dy Tc hE;simp only [Ad,Af]at hx;rw [hid]at k1;rw [k1]at hx;obtain⟨hx,_⟩:=hx;injection hx with hx;subst hx;rcases k4 with ⟨k4,k5⟩ | ⟨p,rfl,q0,rfl,_⟩
     rotate_left
     ·grind
     rcases k4.2 with ⟨q,q0⟩ | ⟨g,cap,cur,q,_⟩
     ·have:vs=[]:=by have:=k4.1;simp_all
      grind
     ·refine⟨_,cap,vs,q,k3,by rw [k4.1,hn],(by simp),fun b hb j v hv=>?_⟩;injection hb with hb;subst hb;exact k4.cells (by rw [q];rfl) j v hv
    ·cases hs
   ·cases hs
  ·cases hs
 ·cases hs
variable {d:Nat} {ty:TypeId}
theorem bM (h:R F st a w G) {s:V} (hx:Ad w G s u) (hy:Ad w G x v) (hs:(Gf P st d t s x).1):
 ∃ r w' G',(Builtin.append_ #[t,t] ty #[u,v]).run P w= .ok r w'/\R F (Gf P st d t s x).2 (a.put (some d) r) w' G':=by
 unfold Gf at *;split at hs
 ·rename_i id E n by' abX;split at hs
  ·rename_i e m cs q hlk avO;split at hs
   ·rename_i E' n' len Tc;obtain⟨rfl,rfl,EN,amj,avX⟩:=hs;obtain⟨i,z,hu,hi,hz,hsz,hby,hzs⟩:=Dz abX;obtain⟨hm,hid⟩:=Bi hlk;obtain⟨u',xs,k1,k2,k3,k4⟩:=Dy Tc (h.store e hm);simp only [Ad,Af]at hx;rw [hid]at k1;rw [k1]at hx;obtain⟨hx,_⟩:=hx;injection hx with hx;subst hx;obtain⟨hqp,ad,cap,us,rfl,q1,q2,q3,q4⟩:=kr h avO hy;rcases k4 with ⟨k4,k5⟩ | ⟨p,rfl,rfl,rfl,k5⟩
    rotate_left
    ·rw [hid]at k5;have hcs:e.cs=[]:=List.length_eq_zero_iff.1 (by simpa using k3.length);by_cases hm0:m=0
     ·subst hm0;have hus:us=[]:=by grind
      subst hus;have hc0:cs=[]:=List.length_eq_zero_iff.1 (by simpa using q1.length);subst hc0;have J_:(Builtin.append_ #[t,t] ty #[.slice (some p) 0 0, .slice ad 0 cap]).run P w= .ok (.slice (some p) 0 0) w:=by cases ad<;>simp [Builtin.append_,run_underlying hu,sizeOf,typeInfo,program,Sem.run,hi,Builtin.lenOf,Builtin.firstCells,storeCells,loadCells,loadCellsFrom]
      obtain⟨G',g1,g2⟩:=h.aqF (id:=id) (e:=e) (E:=E') (n:=n') (p:=p) (e.pu&&q) hcs;refine⟨_,w,G',J_,?_⟩;exact R.put (d:=some d) g1 (show Ad w G' (V.c (C.n_ id)) (.slice (some p) 0 0) by simp only [Ad,Af];grind)
     ·obtain⟨b,rfl⟩: ∃ b,ad=some b:=by cases ad<;>grind
      obtain⟨r,w',J_,aaK,hg,hfr⟩:=Ij (P:=P) (w:=w) t ty E' i z n' by' hu hi hz hsz hby hzs EN p b m cap us q2 (q4 b rfl) (by omega) (by omega) (by grind);obtain⟨G',g1,g2,g3⟩:=h.anz (len:=0) (v:= .slice none 0 0) (xs:=[]) hlk hqp k5.symm k3 q1 ⟨by simp, .inl ⟨rfl,rfl⟩⟩ (by simpa using aaK) hg (.inr hfr);refine⟨r,w',G',J_,?_⟩;grind [R.put,Ad,Af]
    rw [hid]at k5;have main: ∀ r w',(Builtin.append_ #[t,t] ty #[u', .slice ad m cap]).run P w= .ok r w'->w'.ownsRow 0 E' n' r (len+m) (xs++us)->w.grownBy w' u'.ownBlock->(r.ownBlock=u'.ownBlock\/ ∀ b,r.ownBlock=some b->w.heap.size<=b)->
     ∃ r w' G',(Builtin.append_ #[t,t] ty #[u', .slice ad m cap]).run P w= .ok r w'/\R F ((st.new ⟨id,some (E',n',len+m),e.cs++cs,e.pu&&q⟩).put (some d) (.c (.n_ id))) (a.put (some d) r) w' G':=by
     intro r w' J_ aaK hg hfr;obtain⟨G',g1,g2,g3⟩:=h.anz hlk hqp k5 k3 q1 k4 aaK hg hfr;exact⟨r,w',G',J_,g1.put (by grind [Ad,Af])⟩
    cases ad with
    | some b=>
      obtain⟨r,w',J_,aaK,hg,hfr⟩:=Ii (P:=P) (w:=w) t ty E' i z n' by' hu hi hz hsz hby hzs EN u' len xs k4 b m cap us q2 (q4 b rfl) (Ai.one q1) avX amj;grind
    | none=>
      have hm0:=q3 rfl;subst hm0;have hus:us=[]:=by grind
      subst hus;refine main u' w ?_ (by grind) ⟨rfl,rfl,rfl,le_refl _,fun _ _ _=>rfl⟩ (.inl rfl);have aD4: ∃ bs c,u'= .slice bs len c/\len<=c/\(∀ b,bs=some b->b.spot=none):=by
       rcases k4.2 with ⟨q,q0⟩ | ⟨g,c,cur,q,_,_,q5,_⟩
       all_goals grind
      obtain⟨bs,c,rfl,hc,_⟩:=aD4;cases bs<;>simp [Builtin.append_,run_underlying hu,sizeOf,typeInfo,program,Sem.run,hi,Builtin.lenOf,Builtin.firstCells,hc,storeCells]
   grind
  grind
 grind
theorem kt (h:R F st a w G) {t':TypeId} (hx:Ad w G x u) (hy:Ad w G y v) (hs:(UY P st d t x y).1):
 ∃ r w' G',(Builtin.copy_ #[t,t'] ty #[u,v]).run P w= .ok r w'/\R F (UY P st d t x y).2 (a.put (some d) r) w' G':=by
 unfold UY at *;split at hs
 ·rename_i id off len id2 agO abU E abX;split at hs
  ·rename_i e e2 he he2;obtain⟨q1,q2⟩:=hs;obtain⟨hu,inf,hi,hsz⟩:=DF abX;simp only [Ad,Af]at hx hy;obtain⟨b,cap,o,hb,rfl,_,ho1,ho⟩:=hx;obtain⟨b2,ar3,o2,hb2,rfl,_,_,ho2⟩:=hy;obtain⟨hm2,aDH⟩:=Bi he2;obtain⟨aM8,T2,_,_,ayS⟩:=(h.store e2 hm2).row (WU he2) (by rw [aDH];exact hb2);obtain⟨vs,k1,k2⟩:=((ayS.drop agO).take (Nat.min abU len)).list;have hlx:=k1.length;have hl:((e2.cs.drop agO).take (Nat.min abU len)).length =Nat.min abU len:=by grind
   obtain⟨cur,T',agY,ami,hR⟩:=h.stored he hb (off:=off) k1 (by grind);have hw:w.setRow b (cur.toList.take o++vs++cur.toList.drop (o+vs.length)).toArray =w.setRow b (cur.toList.take off++vs++cur.toList.drop (off+vs.length)).toArray :=by
    by_cases hz:vs.length=0
    ·simp_all
    grind
   have J_:=run_copy_row (P:=P) w t t' ty E b o len cap ⟨b2,o2,none⟩ abU ar3 cur T' vs hu (by grind) agY (by omega) (fun j v hv=>by have hj:j<vs.length:=(by grind);have e:o2=agO:=(by grind);subst e;have:=k2 j v hv;grind [Addr.add_mid]) (by omega) (Ai.one k1)
   rw [hw]at J_;refine⟨_,_,G,J_,hR.put (d:=some d) ?_⟩;grind [Ad,Af,goInt]
  grind
 grind
theorem gy {id:Ah} {b:Option Nat} (h:v.oneCell'=true):Ad w (B0 F G id b (some v)) (.c (.n_ id)) v:=by simp [Ad,Af,B0,h]
variable {E:TypeId} {len:Nat}
theorem ac6 {i:TypeInfo} {zv:Value} {ps:Array (Nat×Value)} {abN:Array Value} (hu:P.underlying t=some (.slice E)) (hi:P.info? E=some i) (hz:i.zero=some zv)
 (hsz:i.size=n) (h3:0<n) (h4:len*n<=2 ^ 24) (hf:Instr.fill (fun i=>some (i*n,n)) ((Array.range (len*n)).map (zv.cells[· % zv.cells.size]!)) ps.toList=some abN):
 (Instr.buildSlice t len ps).run P w= .ok (.slice (some ⟨w.heap.size,0,none⟩) len len) (w.alloc (.cells abN E)):=by
 have ap3: ¬2 ^ 24<len*n:=by omega
 by_cases h0:len=0
 ·simp_all [Array.range_zero',Instr.buildSlice,run_underlying,sizeOf,typeInfo,newRow]
 ·have h1: ¬len*n=0:=by rw [Nat.mul_eq_zero];omega
  have h2:n ≠ 0:=by omega
  simp [Instr.buildSlice,run_underlying hu,sizeOf,typeInfo,hi,hsz,ap3,zeroValue,hz,hf,newRow];grind
theorem UZ (h:R F st a w G) {l c:V} (hx:Ad w G l u) (hy:Ad w G c v) (hs:(Kk P st d t l c).1):
 ∃ r w' G',(Instr.makeSlice t u v).run P w= .ok r w'/\R F (Kk P st d t l c).2 (a.put (some d) r) w' G':=by
 unfold Kk at *;split at hs
 ·rename_i k1 l k2 c E n by' abX;split at hs
  ·rename_i z hz;obtain⟨h0,h1,h2,h3,h4,h5⟩:=hs;obtain⟨i,zv,hu,hi,hzv,hsz,hby,hzs⟩:=Dz abX;obtain⟨i',zv',hi',adi,hc⟩:=GZ hz;rw [hi]at hi';injection hi' with hi';subst hi';rw [hzv]at adi;injection adi with adi;subst adi;simp only [Ad,Af]at hx hy;subst hx hy;have hM:maxLen=9223372036854775807:=rfl;have J_:=run_make (P:=P) w t E i zv hu hi hzv k1 k2 l c h0 h1 (by rw [hby,Int.mul_comm];omega) (by omega);have hzr:=LA (Fw (w:=w) (G:=G) hc) (by omega) l.toNat
   rw [hzs]at hzr;have hle:l.toNat*n<=c.toNat*n:=Nat.mul_le_mul_right _ (by omega);have Tc:=h.row (d::st.pre) E n l.toNat c.toNat (Ca z l.toNat) (madeCells zv.cells (c.toNat*i.size)) _ hzr (by
    simp only [madeCells,Array.toList_map,Array.toList_range,List.length_map,List.length_range, <-List.map_take,hzs];grind) (by simp [Ca,h4]) (by rw [size_madeCells,hsz]) (by omega) (by omega) true (fun _=>UW (UV hc) _)
   exact⟨_,_,_,J_,R.put (d:=some d) Tc (gy rfl)⟩
  grind
 grind
theorem Jo (h:R F st a w G) (abX:Ed P t=some (E,n,by')) (hz:PD P E=some z)
 (hf:Jm (fun i=>some (i*n,n)) (Ca z len) ((st.parts true ps.toList).2.map UX)=some cs) (h1:(st.parts true ps.toList).1) (h2:z.length=n) (h3:0<n) (h4:len*n<=2 ^ 24):
 ∃ abN,(Instr.buildSlice t len (ps.map fun(i,x)=>(i,a.eval x))).run P w= .ok (.slice (some ⟨w.heap.size,0,none⟩) len len) (w.alloc (.cells abN E))/\Ai w G cs abN.toList/\cs.length=len*n/\abN.size=len*n/\len<=maxLen:=by
 obtain⟨i,zv,hu,hi,hzv,hsz,hby,hzs⟩:=Dz abX;obtain⟨i',zv',hi',adi,hc⟩:=GZ hz;rw [hi]at hi';injection hi' with hi';subst hi';rw [hzv]at adi;injection adi with adi;subst adi;have hzr:=LA (Fw (w:=w) (G:=G) hc) (by omega) len;obtain⟨abN,q1,q2⟩:=Jn hf (OR (h.parts rfl h1)) hzr;have q1':Instr.fill (fun i=>some (i*n,n)) ((Array.range (len*n)).map (zv.cells[· % zv.cells.size]!)) (ps.map fun(i,x)=>(i,a.eval x)).toList =some abN:=by simp_all
 have L_:abN.size=len*n:=by
  have e1:=q2.length;have e2:cs.length=(Ca z len).length :=by
   clear hzr q1 q1' q2 e1;have hz': ∀ (l:List (Nat×V)) (b out:List C),Jm (fun i=>some (i*n,n)) b l=some out->out.length=b.length:=by
    intro l;induction l with
    | nil=>grind [Jm]
    | cons p l ih=>
      grind [Jm]
   grind
  grind [Ca]
 have hcl:cs.length=len*n:=by have:=q2.length;grind
 have hM:maxLen=9223372036854775807:=rfl;have hlen:len<=maxLen:=by have:len*1<=len*n:=Nat.mul_le_mul_left _ h3;omega
 grind [ac6]
theorem Kl (h:R F st a w G) (hs:(Bf P st d t len ps.toList).1):
 ∃ r w' G',(Instr.buildSlice t len (ps.map fun(i,x)=>(i,a.eval x))).run P w= .ok r w'/\R F (Bf P st d t len ps.toList).2 (a.put (some d) r) w' G':=by
 unfold Bf at *;split at hs
 ·rename_i E n by' abX;split at hs
  ·rename_i z hz;split at hs
   ·rename_i cs hf;obtain⟨h1,h2,h3,h4⟩:=hs;obtain⟨abN,q1,q2,hcl,L_,hlen⟩:=Jo h abX hz hf h1 h2 h3 h4;exact⟨_,_,_,q1,R.put (d:=some d) (h.row (d::st.pre) E n len len cs abN abN.toList q2 (by grind) hcl L_ (le_refl _) hlen (Au cs) id) (gy rfl)⟩
   grind
  grind
 grind
theorem Rc (h:R F st a w G) {o:Oper} (hs:(ef P st o).1):Eff P F o a w (ef P st o).2:=by
 obtain⟨dst,op,ty,pos,aft,gd⟩:=o;cases op<;>cases dst<;>simp only [ef]at hs ⊢ <;>try (exact hs.elim)
 case store.none T x y=>
  obtain⟨w',h1,h2⟩:=Rb h (h.arg rfl hs.1) (kp (kq (h.arg rfl hs.2.1))) hs.2.2;exact⟨.skip,w',G,by simp [execOp,h1], .inr ⟨rfl,h2⟩⟩
 case store.some T x y d=>
  obtain⟨w',h1,h2⟩:=Rb h (h.arg rfl hs.1) (kp (kq (h.arg rfl hs.2.1))) hs.2.2;exact⟨.skip,w',G,by simp [execOp,h1], .inr ⟨rfl,(by grind [R.put,Ad])⟩⟩
 case alloc.some T d=>
  split at hs
  ·rename_i cs hz;obtain⟨i,z,hi,hzv,hc⟩:=Qf hz;have hb:=h.box (d::st.pre) T cs z.cells (Kj hc) false (fun q=>by cases q);refine⟨.value (.pointer (some ⟨w.heap.size,0,none⟩)),_,_,?_, .inl ⟨_,rfl,R.put (d:=some d) hb (by simp [Ad,Af,B0])⟩⟩;simp_all [execOp,Instr.alloc,aeN,newVar,newRow]
  grind
 case box.some T x d=>
  split at hs
  ·rename_i cs hc;have hv:=Jl (h.arg rfl hs.1) hc;have hb:=h.box (d::st.pre) T cs (a.eval x).cells hv false (fun q=>by cases q);refine⟨.value (.pointer (some ⟨w.heap.size,0,none⟩)),_,_,?_, .inl ⟨_,rfl,R.put (d:=some d) hb (by simp [Ad,Af,B0])⟩⟩;simp [execOp,Instr.box,newVar,newRow]
  grind
 case assign.some x d=>
  split at hs
  all_goals first
   | (rename_i q;cases q;done)
   | (rename_i q
      cases q
      split at hs
      ·rename_i E n hE;have hb:=h.anZ (d::st.pre) E n;exact⟨.value (.slice none 0 0),w,_,by simp [execOp,Act.eval], .inl ⟨_,rfl,R.put (d:=some d) hb (gy rfl)⟩⟩
      grind)
   | grind
 case buildSlice.some t len ps d=>
  obtain⟨r,w',G',q1,q2⟩:=Kl (d:=d) h hs;exact⟨.value r,w',G',by simp [execOp,q1], .inl ⟨r,rfl,q2⟩⟩
 case makeSlice.some t l c d=>
  obtain⟨r,w',G',q1,q2⟩:=UZ (d:=d) h (h.arg rfl hs.1) (h.arg rfl hs.2.1) hs.2.2;exact⟨.value r,w',G',by simp [execOp,q1], .inl ⟨r,rfl,q2⟩⟩
 case call.some c d=>
  split at hs
  ·rename_i s x t t' h1 h2 h3;obtain⟨q1,q2,q3,q4⟩:=hs;subst q3;have ea:c.args= #[s,x]:=by grind
   have et:c.argTypes= #[t,t]:=by grind
   obtain⟨r,w',G',k1,k2⟩:=bM (d:=d) (ty:=ty) h (h.arg rfl q1) (h.arg rfl q2) q4;exact⟨.value r,w',G',by simp_all [execOp,resolve,invoke,builtin], .inl ⟨r,rfl,k2⟩⟩
  ·rename_i s x t t' h1 h2 h3;obtain⟨q1,q2,_,q4⟩:=hs;have ea:c.args= #[s,x]:=by grind
   have et:c.argTypes= #[t,t']:=by grind
   obtain⟨r,w',G',k1,k2⟩:=kt (d:=d) (t':=t') (ty:=ty) h (h.arg rfl q1) (h.arg rfl q2) q4;exact⟨.value r,w',G',by simp_all [execOp,resolve,invoke,builtin], .inl ⟨r,rfl,k2⟩⟩
  grind
end Go.PL
namespace Go.PL
open Go Go.RowKit
def ent (P:Program) (f:FuncId):Bool:=
 match P.funcs[f]? with
 | some fn=> !(fn.name== "runtime.NumGoroutine")&&fn.body.isSome
 | none=>false
structure CZ (P:Program) (I:World->Prop) (f:FuncId) (args:List V) (Q:V->Prop):Prop where
 ent:ent P f=true
 run: ∀ (w:World) (vs:Array Value) (av:Nat->Prop),I w->(∀ b,av b->b<w.heap.size)->Aw w (im av) args vs.toList->
  Calls P f vs w (fun e w'=> ∃ v r,e= .returned v/\Q r/\r.pure=true/\Ad w' (im av) r v/\Below w.heap.size w w')
variable {P:Program} {f:FuncId}
theorem acL (h:ent P f=true) (args:Array Value) (w:World):(callFunc f args).run P w= .ok (.enter f args) w:=by
 unfold ent at h;split at h
 ·rename_i fn hf;simp only [and_eq_true,not_eq_true']at h;have h2: ¬fn.body=none:=by grind
  simp_all [callFunc]
 ·cases h
mutual
def V.flat:V->Bool
 | .c x=>x.flat
 | .agg cs=>cs.all C.flat
 | .tup vs=>KR vs
 | _=>false
def KR:List V->Bool
 | []=>true
 | v::vs=>v.flat&&KR vs
end
mutual
def ku:V->Value
 | .c x=>Ix x
 | .agg cs=> .agg (cs.map Ix).toArray
 | .tup vs=> .tuple (kw vs).toArray
 | _=>Go.undef
def kw:List V->List Value
 | []=>[]
 | v::vs=>ku v::kw vs
end
variable {w:World} {G:AJ}
theorem TB: ∀ {cs:List C} {vs:List Value},cs.all C.flat=true->(Ai w G cs vs↔vs=cs.map Ix)
 | [],[],_=>by simp [Ai]
 | [],_::_,_=>by simp [Ai]
 | _::_,[],_=>by simp [Ai]
 | c::cs,v::vs,h=>by simp only [List.all_cons,and_eq_true]at h;simp only [Ai,map_cons,List.cons.injEq,AZ h.1,TB h.2]
mutual
variable {w:World} {G:AJ}
theorem FO: ∀ {x:V} {v:Value},x.flat=true->(Ad w G x v↔v=ku x)
 | .c x,v,h=>by grind [Ad,ku,AZ,V.flat]
 | .agg cs,v,h=>by
   simp only [Ad,ku];constructor
   ·rintro⟨arr,rfl,hr⟩;rw [TB (by simpa only [V.flat] using h)]at hr;rw [<-hr]
   grind [TB,V.flat]
 | .tup vs,v,h=>by
   simp only [Ad,ku];constructor
   ·rintro⟨arr,rfl,hr⟩;rw [Mh (by simpa only [V.flat] using h)]at hr;rw [<-hr]
   ·intro e;exact⟨_,e,by rw [Mh (by simpa only [V.flat] using h)]⟩
 | .g _ _,_,h=>by simp [V.flat]at h
 | .undef,_,h=>by simp [V.flat]at h
theorem Mh: ∀ {xs:List V} {vs:List Value},KR xs=true->(Aw w G xs vs↔vs=kw xs)
 | [],vs,_=>by simp only [Aw,kw]
 | x::xs,vs,h=>by
   simp only [KR,and_eq_true]at h;simp only [Aw,kw];constructor
   ·rintro⟨v,r,rfl,h1,h2⟩;rw [(FO h.1).1 h1,(Mh h.2).1 h2]
   ·intro e;exact⟨_,_,e,(FO h.1).2 rfl,(Mh h.2).2 rfl⟩
end
def Km (st:St):C->C
 | .n_ id=>match st.look id with
   | some e=>match e.row with
     | some (_,_,len)=>if e.pu then .sl len e.cs else .any
     | none=> .any
   | none=> .any
 | .Tv => .sl 0 []
 | c=>c
def BC (st:St):V->V
 | .c x=> .c (Km st x)
 | .agg cs=> .agg (cs.map (Km st))
 | v=>v
def Re:C->List Ah
 | .n_ id=>[id]
 | _=>[]
def wt:V->List Ah
 | .c x=>Re x
 | .agg cs=>cs.flatMap Re
 | _=>[]
variable {F:Fr} {st:St} {a:Act} {av:Nat->Prop} {v:Value}
theorem dC (h:R F st a w G) (hav: ∀ b,b<w.heap.size->av b->G.wr b) {c:C} (hid: ∀ id∈Re c,st.acU id=true-> ∀ b,G.y_ id=some b-> ¬av b)
 (hp:(Km st c).pure =true) (hr:Af w G c v):Af w (im av) (Km st c) v:=by
 cases c with
 | n_ id=>
   simp only [Km]at hp ⊢;split at hp
   ·rename_i e he;split at hp
    ·rename_i E n len Tc;split
     rotate_left
     ·grind [Af]
     rename_i hpu;have hpl:Au e.cs=true:=h.P_ e (Bi he).1 hpu;have hok:st.acU id=true:=by grind [St.acU]
     have hf:=(h.frz he Tc hpl).own v (by grind [Af]);simp only [Af]at hf ⊢;obtain⟨hpp,ad,cap,q1,q2,q3,q4,q5⟩:=hf;refine⟨hpp,ad,cap,q1,q2,q3,q4,?_⟩;rcases q5 with q5 | ⟨b,o,rfl,k1,k2,k3⟩
     ·grind
     ·by_cases hz:len=0
      ·grind
      refine .inr ⟨b,o,rfl,?_,k2,?_⟩
      ·have hb:G.y_ id=some b:=by obtain⟨hm,aLR⟩:=Bi he;have hE:=h.store e hm;grind [Ba,Af]
       exact hid id (by simp [Re]) hok b hb
      ·exact Am.mono (G:=B0 F G id none none) (G':=im av) ⟨le_refl _,fun _ _ _=>rfl,fun b' hb' hw=>by
        have:=hav b' hb' hw;rw [h.wr]at this;simp only [B0];rcases this with q | ⟨i,q⟩
        ·exact .inl q
        ·by_cases hi:i=id
         ·subst hi;exact absurd hw (hid i (by simp [Re]) hok b' q)
         grind,fun _ _ _ _=>B7.same rfl⟩ _ _ _ (fun i hi=>by have:BO i e.cs=true:=hi;rw [AU i e.cs hpl]at this;cases this) (fun _=>rfl) k3
    grind [Af]
   grind [Af]
 | Tv=>
   simp only [Af]at hr;subst hr;simp only [Km,Af];exact⟨rfl,none,0,rfl,le_refl _,zero_le _,fun _=>trivial, .inl trivial⟩
 | _=>
   first
    | exact Af.mono (G:=G) (G':=im av) ⟨le_refl _,fun _ _ _=>rfl,fun b hb hw=>hav b hb hw,fun _ _ _ _=>B7.same rfl⟩ _ _ (fun i hi=>absurd (show (Km st _).E_ i=true from hi) (by rw [HG i _ hp];simp)) hr
theorem dD (h:R F st a w G) (hav: ∀ b,b<w.heap.size->av b->G.wr b): ∀ {cs:List C} {vs:List Value},(∀ id∈cs.flatMap Re,st.acU id=true-> ∀ b,G.y_ id=some b-> ¬av b)->
 Au (cs.map (Km st))=true->Ai w G cs vs->Ai w (im av) (cs.map (Km st)) vs
 | [],[],_,_,_=>by simp [Ai]
 | [],_::_,_,_,h=>by simp [Ai]at h
 | _::_,[],_,_,h=>by simp [Ai]at h
 | c::cs,v::vs,hid,hp,hr=>by simp only [Ai]at hr;simp only [map_cons,Au,and_eq_true]at hp;simp only [map_cons,Ai];exact⟨dC h hav (fun id hi=>hid id (by simp [hi])) hp.1 hr.1,dD h hav (fun id hi=>hid id (by simp only [flatMap_cons,List.mem_append];exact .inr hi)) hp.2 hr.2⟩
theorem dE (h:R F st a w G) (hav: ∀ b,b<w.heap.size->av b->G.wr b) {x:V} (hid: ∀ id∈wt x,st.acU id=true-> ∀ b,G.y_ id=some b-> ¬av b)
 (hp:(BC st x).pure =true) (hr:Ad w G x v):Ad w (im av) (BC st x) v:=by
 cases x with
 | c x=>simp only [BC,Ad]at hr ⊢;exact dC h hav hid (by grind [BC,V.pure]) hr
 | agg cs=>
   simp only [BC,Ad]at hr ⊢;obtain⟨arr,e,hr⟩:=hr;exact⟨arr,e,dD h hav hid (by grind [BC,V.pure]) hr⟩
 | tup vs=>exact rN hav hp hr
 | g b v'=>exact rN hav hp hr
 | undef=>simp only [BC,Ad]
def C0 (xs:List V):List Ah:=xs.flatMap wt
theorem G5 (h:R F st a w G) (hav: ∀ b,b<w.heap.size->av b->G.wr b): ∀ {xs:List V} {vs:List Value},(∀ id∈C0 xs,st.acU id=true-> ∀ b,G.y_ id=some b-> ¬av b)->
 B9 (xs.map (BC st))=true->Aw w G xs vs->Aw w (im av) (xs.map (BC st)) vs
 | [],_,_,_,h=>by simpa [Aw] using h
 | x::xs,vs,hid,hp,hr=>by
   simp only [Aw]at hr;obtain⟨v,r,rfl,h1,h2⟩:=hr;simp only [map_cons,B9,and_eq_true]at hp;simp only [map_cons,Aw];exact⟨v,r,rfl,(by grind [dE,C0]),
    G5 h hav (fun id hi=>hid id (by simp only [C0,flatMap_cons,List.mem_append];exact .inr hi)) hp.2 h2⟩
def St.after (st:St) (ids:List Ah) (d:Option Nat) (r:V):St:=
 if r.flat then st.put d r else match ids with
  | []=>st.put d r
  | id::_=>(st.freeze id).put d r
variable {w':World}
theorem Ee {B:Nat} (h:Below B w w'):NE w w':=⟨h.os,h.tape,h.output⟩
theorem Fz (h:Below w.heap.size w w'):CY w w':=⟨h.size,fun b hb=>h.block b hb⟩
theorem R.alM (h:R F st a w G) {b:Nat} (hb:G.wr b):b<w.heap.size:=by
 rw [h.wr]at hb;rcases hb with q | ⟨i,q⟩
 ·exact lt_of_lt_of_le (h.abi b q) h.L_
 ·exact h.lt i b q
theorem R.called (h:R F st a w G) {xs:List V} {us:Array Value} {Q:V->Prop} (hc:CZ P F.I f (xs.map (BC st)) Q)
 (hp:B9 (xs.map (BC st))=true) (hx:Aw w G xs us.toList) (d:Option Nat) (hfl: ∀ r,Q r->(r.flat=true\/(C0 xs).length <=1/\ ∀ id∈C0 xs,st.acU id=true)):
 Calls P f us w (fun e w'=> ∃ v r G',e= .returned v/\Q r/\R F (st.after (C0 xs) d r) (a.put d v) w' G'):=by
 have hI:F.I w:=h.inv w h.L_ h.ext;by_cases hne:C0 xs=[]
 ·have h1:=G5 h (av:=fun b=>G.wr b) (fun _ _ q=>q) (by grind) hp hx;refine(hc.run w us (fun b=>G.wr b) hI (fun b hb=>h.alM hb) h1).mono fun e w' ⟨v,r,he,hq,hpr,hr,hb⟩=>?_;refine⟨v,r,G,he,hq,?_⟩;have h2:=(h.same (Ee hb) (Fz hb)).put (d:=d) (Xq (G:=G) (fun _ _ q=>q) hpr hr);grind [St.after]
 ·
  have hav: ∀ b,b<w.heap.size->(G.wr b/\ ∀ id∈C0 xs,G.y_ id ≠ some b)->G.wr b:=fun _ _ q=>q.1;have h1:=G5 h (av:=fun b=>G.wr b/\ ∀ id∈C0 xs,G.y_ id ≠ some b) hav (fun id hi _ b hb hw=>hw.2 id hi hb) hp hx;refine(hc.run w us _ hI (fun b hb=>h.alM hb.1) h1).mono fun e w' ⟨v,r,he,hq,hpr,hr,hb⟩=>?_;by_cases hf:r.flat=true
  ·refine⟨v,r,G,he,hq,?_⟩;have h2:=(h.same (Ee hb) (Fz hb)).put (d:=d) ((FO (w:=w') (G:=G) hf).2 ((FO hf).1 hr));simp_all [St.after]
  ·rcases hfl r hq with q | ⟨q1,q2⟩
   ·grind
   ·obtain⟨id,hid⟩: ∃ id,C0 xs=[id]:=by
     match hh:C0 xs,q1,hne with
     | [],_,hne=>grind
     | [id],_,_=>grind
    obtain⟨G',g1,g2,g3⟩:=h.freeze id;refine⟨v,r,G',he,hq,?_⟩;have g4:=g1.same (Ee hb) (Fz hb);have hr':Ad w' G' r v:=(by grind [Xq]);unfold St.after;rw [if_neg hf,hid];exact g4.put hr'
end Go.PL
namespace Go.PL
open Go Go.RowKit
def ceq:C->C->Bool
 | .int _ a, .int _ b=>a==b
 | .bool a, .bool b=>a==b
 | .str a, .str b=>a==b
 | _,_=>false
def BS:List C->List C->Bool
 | [],[]=>true
 | c::cs,d::ds=>ceq c d&&BS cs ds
 | _,_=>false
theorem NH: ∀ {a b c d:List C},a.length=b.length->BS (a++c) (b++d)=(BS a b&&BS c d)
 | [],[],c,d,_=>by simp [BS]
 | x::a,y::b,c,d,h=>by simp only [cons_append,BS,NH (a:=a) (b:=b) (by simpa using h),Bool.and_assoc]
 | [],_::_,_,_,h=>by simp at h
 | _::_,[],_,_,h=>by simp at h
def tV (P:Program) (R:TypeId->List C->Bool) (cs:List C):Nat->List Field->Bool
 | o,[]=>o==cs.length
 | o,f::fs=>f.name != "_" &&f.offset==o&&(match KO P f.type with
   | some (ag,n)=>(ag||n==1)&&Nat.ble (o+n) cs.length&&R f.type ((cs.drop o).take n)&&tV P R cs (o+n) fs
   | none=>false)
def V6 (P:Program):Nat->TypeId->List C->Bool
 | 0,_,_=>false
 | n+1,t,cs=>match P.underlying t with
   | some .bool =>match cs with
     | [.bool _]=>true
     | _=>false
   | some (.int k)=>match cs with
     | [.int k' _]=>k==k'
     | _=>false
   | some .string =>match cs with
     | [.str _]=>true
     | _=>false
   | some (.struct fs)=> !P.stoodInHeld t&&tV P (V6 P n) cs 0 fs.toList
   | some (.array m e)=>match KO P e with
     | some (ag,k)=>(ag||k==1)&&cs.length==m*k&&(List.range m).all fun i=>V6 P n e ((cs.drop (i*k)).take k)
     | none=>false
   | _=>false
def oK (P:Program) (t:TypeId):Bool:=match P.underlying t with
 | some d=>d.isRow
 | none=>false
def vOf (ag:Bool) (cs:List C):V:=if ag then .agg cs else .c (cs.getD 0 .any)
theorem WV {ag:Bool} {o n:Nat} {cs:List C} (h0:ag=true\/n=1) (hn:o+n<=cs.length):toV ag o n cs=vOf ag ((cs.drop o).take n):=by unfold toV vOf;grind
section
variable {P:Program} {w:World} {G:AJ}
def Ads (P:Program) (w:World) (G:AJ) (d n:Nat) (t:TypeId):Prop:=
 ∀ (cs ds:List C) (x y:Value),V6 P n t cs=true->V6 P n t ds=true->Ad w G (vOf (oK P t) cs) x->Ad w G (vOf (oK P t) ds) y-> ∀ w',(Op.equalIn d t x y).run P w'= .ok (BS cs ds) w'
variable {t:TypeId} {ag:Bool} {n:Nat}
theorem WW (h:KO P t=some (ag,n)):oK P t=ag:=by grind [Dl,oK]
variable {d:Nat} {cs ds:List C} {xs ys:Array Value}
theorem U0 (ih: ∀ t,Ads P w G d n t) (hx:Ai w G cs xs.toList) (hy:Ai w G ds ys.toList): ∀ (fs:List Field) (o:Nat),tV P (V6 P n) cs o fs=true->tV P (V6 P n) ds o fs=true->
 ∀ w',(Op.eqFields d xs ys fs).run P w'= .ok (BS (cs.drop o) (ds.drop o)) w'
 | [],o,h1,h2,w'=>by
   simp only [tV,beq_iff_eq]at h1 h2;have e1:cs.drop o=[]:=by grind
   have e2:ds.drop o=[]:=by grind
   rw [e1,e2];simp [Op.eqFields,BS]
 | f::fs,o,h1,h2,w'=>by
   simp only [tV,and_eq_true,bne_iff_ne,ne_eq,beq_iff_eq]at h1 h2;obtain⟨⟨hn,ho⟩,h1⟩:=h1;obtain⟨_,h2⟩:=h2;cases ht:KO P f.type with
   | none=>grind
   | some p=>
     obtain⟨ag,k⟩:=p;rw [ht]at h1 h2;simp only [and_eq_true,Bool.or_eq_true,beq_iff_eq,Nat.ble_eq]at h1 h2;obtain⟨⟨⟨h0,l1⟩,r1⟩,q1⟩:=h1;obtain⟨⟨⟨_,l2⟩,r2⟩,q2⟩:=h2;obtain⟨a,ra,pa⟩:=adl ht hx l1 (by grind);obtain⟨b,rb,pb⟩:=adl ht hy l2 (by grind);rw [WV h0 l1, <-WW ht]at ra;rw [WV h0 l2, <-WW ht]at rb;have he:=ih f.type _ _ a b r1 r2 ra rb w';have aln:=U0 ih hx hy fs (o+k) q1 q2 w';have anS:cs.drop o=(cs.drop o).take k++cs.drop (o+k):=by rw [<-drop_drop,take_append_drop]
     have anR:ds.drop o=(ds.drop o).take k++ds.drop (o+k):=by rw [<-drop_drop,take_append_drop]
     rw [anS,anR,NH (by simp;omega)];simp only [Op.eqFields,hn,ne_eq,not_false_eq_true,if_true,Sem.run_bind,ho,pa,pb,he,Result.andThen_ok];cases BS ((cs.drop o).take k) ((ds.drop o).take k)
     ·simp
     grind
theorem Xv {e:TypeId} (ih:Ads P w G d n e) {k:Nat} (ht:KO P e=some (ag,k)) (h0:ag=true\/k=1) (hx:Ai w G cs xs.toList) (hy:Ai w G ds ys.toList): ∀ (m o:Nat),cs.length=(o+m)*k->ds.length=(o+m)*k->
 (∀ i,i<o+m->V6 P n e ((cs.drop (i*k)).take k)=true)->(∀ i,i<o+m->V6 P n e ((ds.drop (i*k)).take k)=true)->
 ∀ w',(Op.eqItems d e k xs ys ((List.range m).map (o+ ·))).run P w'= .ok (BS (cs.drop (o*k)) (ds.drop (o*k))) w'
 | 0,o,l1,l2,_,_,w'=>by
   have e1:cs.drop (o*k)=[]:=by grind
   have e2:ds.drop (o*k)=[]:=by grind
   rw [e1,e2];simp [Op.eqItems,BS]
 | m+1,o,l1,l2,a1,a2,w'=>by
   have hk:(o+(m+1))*k=o*k+k+m*k:=by grind
   have b1:o*k+k<=cs.length:=by grind
   have b2:o*k+k<=ds.length:=by grind
   obtain⟨a,ra,pa⟩:=adl ht hx b1 (h0.imp id (fun h=>by omega));obtain⟨b,rb,pb⟩:=adl ht hy b2 (h0.imp id (fun h=>by omega));rw [WV h0 b1, <-WW ht]at ra;rw [WV h0 b2, <-WW ht]at rb;have he:=ih _ _ a b (a1 o (by omega)) (a2 o (by omega)) ra rb w';have aln:=Xv ih ht h0 hx hy m (o+1) (by grind) (by grind) (by grind) (by grind) w';have hl:(List.range (m+1)).map (o+ ·)=o::(List.range m).map (o+1+ ·):=by rw [List.range_succ_eq_map,map_cons,map_map];simp only [add_zero,List.cons.injEq,true_and];apply List.map_congr_left;grind
   have e1:(o+1)*k=o*k+k:=by grind
   rw [e1]at aln;have anS:cs.drop (o*k)=(cs.drop (o*k)).take k++cs.drop (o*k+k):=by rw [<-drop_drop,take_append_drop]
   have anR:ds.drop (o*k)=(ds.drop (o*k)).take k++ds.drop (o*k+k):=by rw [<-drop_drop,take_append_drop]
   rw [anS,anR,NH (by simp;omega),hl];simp only [Op.eqItems,Sem.run_bind,pa,pb,he,Result.andThen_ok];cases BS ((cs.drop (o*k)).take k) ((ds.drop (o*k)).take k)
   ·simp
   grind
theorem gz: ∀ (n d:Nat) (t:TypeId),Ads P w G (d+n) n t
 | 0,_,_,_,_,_,_,h,_,_,_,_=>by simp [V6]at h
 | n+1,d,t,cs,ds,x,y,h1,h2,hx,hy,w'=>by
   unfold V6 at h1 h2;cases hu:P.underlying t with
   | none=>grind
   | some kd=>
     rw [hu]at h1 h2;have hr:oK P t=kd.isRow:=by unfold oK;rw [hu]
     rw [hr]at hx hy;cases kd<;>simp only at h1 h2<;>try (cases h1;done)
     case bool=>
      split at h1<;>try (cases h1;done)
      split at h2<;>try (cases h2;done)
      simp only [vOf,Ad,Af,getD_cons_zero,TypeDesc.isRow,false_eq_true,if_false]at hx hy;subst hx hy;rw [show d+(n+1)=(d+n)+1 from rfl,run_equalIn_bool' w' (d+n) t _ _ hu];simp [BS,ceq]
     case int k=>
      split at h1<;>try (cases h1;done)
      split at h2<;>try (cases h2;done)
      simp only [beq_iff_eq]at h1 h2;subst h1;simp only [vOf,Ad,Af,getD_cons_zero,TypeDesc.isRow,false_eq_true,if_false]at hx hy;subst hx hy h2;rw [show d+(n+1)=(d+n)+1 from rfl,run_equalIn_int w' (d+n) t _ _ _ _ hu];simp [BS,ceq]
     case string=>
      split at h1<;>try (cases h1;done)
      split at h2<;>try (cases h2;done)
      simp only [vOf,Ad,Af,getD_cons_zero,TypeDesc.isRow,false_eq_true,if_false]at hx hy;subst hx hy;rw [show d+(n+1)=(d+n)+1 from rfl,run_equalIn_string w' (d+n) t _ _ hu];simp [BS,ceq,ByteArray.toList_eq]
     case struct fs=>
      simp only [and_eq_true,not_eq_true']at h1 h2;simp only [vOf,TypeDesc.isRow,if_true,Ad]at hx hy;obtain⟨xs,rfl,hx⟩:=hx;obtain⟨ys,rfl,hy⟩:=hy;have hfs:P.fieldsOf t=fs:=by simp [Program.fieldsOf,hu]
      rw [show d+(n+1)=(d+n)+1 from rfl,run_equalIn_struct w' (d+n) t xs ys (by rw [hfs];exact hu) h1.1,hfs];have:=U0 (fun t=>gz n d t) hx hy fs.toList 0 h1.2 h2.2 w';grind
     case array m e=>
      cases ht:KO P e with
      | none=>grind
      | some p=>
        obtain⟨ag,k⟩:=p;rw [ht]at h1 h2;simp only [and_eq_true,Bool.or_eq_true,beq_iff_eq,List.all_eq_true,List.mem_range]at h1 h2;simp only [vOf,TypeDesc.isRow,if_true,Ad]at hx hy;obtain⟨xs,rfl,hx⟩:=hx;obtain⟨ys,rfl,hy⟩:=hy;obtain⟨dd,i,_,_,hi,hsz⟩:=Dl ht;have hc:P.cellsOf e=k:=by grind [Program.cellsOf]
        rw [show d+(n+1)=(d+n)+1 from rfl,run_equalIn_array w' (d+n) xs ys hu hi];have:=Xv (gz n d e) ht h1.1.1 hx hy m 0 (by grind) (by grind) (by grind) (by grind) w';simp_all
def oL (P:Program) (t:TypeId) (cs ds:List C):Bool:= !P.eqGuardType P.depth t&&oK P t&&V6 P 40 t cs&&V6 P 40 t ds
def kx (P:Program) (op:BinOp) (t:TypeId) (cs ds:List C):Prop×V:=
 match op with
 | .eql =>(oL P t cs ds=true, .c (.bool (BS cs ds)))
 | .neq =>(oL P t cs ds=true, .c (.bool !(BS cs ds)))
 | _=>no
theorem oM {op:BinOp} {u v:Value} {ox oy:Operand} (hx:Ad w G (.agg cs) u) (hy:Ad w G (.agg ds) v) (hs:(kx P op t cs ds).1):
 ∃ r,Ad w G (kx P op t cs ds).2 r/\ ∀ w',(do eqGuard op t ox oy u v;binOp op t u v).run P w'= .ok r w':=by
 have key:oL P t cs ds=true-> ∃ xs ys,u= .agg xs/\v= .agg ys/\(∀ w',(eqGuard op t ox oy u v).run P w'= .ok () w')/\ ∀ w',(Op.equalIn 10000 t u v).run P w'= .ok (BS cs ds) w':=by intro h;simp only [oL,and_eq_true,not_eq_true']at h;have hx':=hx;have hy':=hy;simp only [Ad]at hx' hy';obtain⟨xs,rfl,_⟩:=hx';obtain⟨ys,rfl,_⟩:=hy';refine⟨xs,ys,rfl,rfl,(by grind [run_eqGuard_agg]),fun w'=>?_⟩;exact gz (P:=P) (w:=w) (G:=G) 40 9960 t cs ds _ _ h.1.2 h.2 (by rw [h.1.1.2];exact hx) (by rw [h.1.1.2];exact hy) w'
 unfold kx at *;split at hs
 ·obtain⟨xs,ys,rfl,rfl,h1,h2⟩:=key hs;exact⟨_,(AZ rfl).2 rfl,fun w'=>by simp only [Sem.run_bind,h1,Result.andThen_ok,run_eql_struct,h2];rfl⟩
 ·obtain⟨xs,ys,rfl,rfl,h1,h2⟩:=key hs;exact⟨_,(AZ rfl).2 rfl,fun w'=>by simp only [Sem.run_bind,h1,Result.andThen_ok,run_neq_struct,h2];rfl⟩
 grind
end
def tW:List C->Bool
 | []=>true
 | .int _ _::cs=>tW cs
 | .bool _::cs=>tW cs
 | .str _::cs=>tW cs
 | _::_=>false
theorem dF: ∀ {cs:List C},tW cs=true->BS cs cs=true
 | [],_=>rfl
 | c::cs,h=>by cases c<;>simp only [tW]at h<;>first | (cases h;done) | simp_all [BS,ceq,dF]
def kinds:List C->List (Option IntKind)
 | []=>[]
 | .int k _::cs=>some k::kinds cs
 | _::cs=>none::kinds cs
theorem WX: ∀ {cs ds:List C},kinds cs=kinds ds->BS cs ds=true->cs=ds
 | [],[],_,_=>rfl
 | [],_::_,_,h=>by simp [BS]at h
 | _::_,[],_,h=>by simp [BS]at h
 | c::cs,d::ds,hk,h=>by
   simp only [BS,and_eq_true]at h;cases c<;>cases d<;>simp only [ceq,false_eq_true,false_and]at h
   ·simp only [kinds,List.cons.injEq,injEq]at hk;rw [beq_iff_eq.1 h.1,hk.1,WX hk.2 h.2]
   ·simp only [kinds,List.cons.injEq,true_and]at hk;rw [beq_iff_eq.1 h.1,WX hk h.2]
   ·simp only [kinds,List.cons.injEq,true_and]at hk;rw [beq_iff_eq.1 h.1,WX hk h.2]
theorem CK {α:Type} [DecidableEq α] (enc:α->List C) (wj:List C->α) (hd: ∀ a,wj (enc a)=a) (hs: ∀ a,tW (enc a)=true) (hk: ∀ a b,kinds (enc a)=kinds (enc b)) (a b:α):BS (enc a) (enc b)=(a==b):=by grind [dF,WX]
def AC:C->Int
 | .int _ n=>n
 | _=>0
def Xw:C->Bool
 | .bool b=>b
 | _=>false
def ky:C->List UInt8
 | .str s=>s
 | _=>[]
structure CH (st d_:St):Prop where
 len:d_.tm.length=st.tm.length
 tm: ∀ i,d_.tm.getD i .undef = .undef \/d_.tm.getD i .undef =st.tm.getD i .undef
 so: ∀ e∈d_.so,e∈st.so
 nd:(st.so.map (·.id)).Nodup ->(d_.so.map (·.id)).Nodup
 gh:d_.gh.length=st.gh.length/\ ∀ i,d_.gh.getD i .undef = .undef \/d_.gh.getD i .undef =st.gh.getD i .undef
 pre:d_.pre=st.pre
theorem CH.refl (st:St):CH st st:=⟨rfl,fun _=> .inr rfl,fun _ h=>h,id,(by grind),rfl⟩
variable {w:World} {G:AJ}
theorem Xx: ∀ {xs ys:List V} {vs:List Value},ys.length=xs.length->(∀ i,ys.getD i .undef = .undef \/ys.getD i .undef =xs.getD i .undef)->Aw w G xs vs->Aw w G ys vs
 | [],[],_,_,_,h=>h
 | x::xs,y::ys,vs,hl,hi,h=>by
   simp only [Aw]at h ⊢;obtain⟨v,r,e,h1,h2⟩:=h;refine⟨v,r,e,?_,Xx (by simpa using hl) (fun i=>by simpa using hi (i+1)) h2⟩;rcases hi 0 with q | q
   ·simp at q;rw [q];simp only [Ad]
   ·simp at q;rw [q];exact h1
 | [],_::_,_,hl,_,_=>by simp at hl
 | _::_,[],_,hl,_,_=>by simp at hl
theorem R.less {F:Fr} {st:St} {a:Act} {d_:St} (h:R F st a w G) (hl:CH st d_):R F d_ a w G:={
 dfr:=h.dfr
 size:=by rw [hl.len];exact h.size
 M_:=fun i=>by
  rcases hl.tm i with q | q
  ·rw [q];simp only [Ad]
  ·rw [q];exact h.M_ i
 Tk:=Xx hl.gh.1 hl.gh.2 h.Tk
 store:=fun e he=>h.store e (hl.so e he)
 deep:=fun e he=>h.deep e (hl.so e he)
 P_:=fun e he=>h.P_ e (hl.so e he)
 nodup:=hl.nd h.nodup
 inj:=h.inj,lt:=h.lt,new:=h.new,wr:=h.wr,abi:=h.abi,inv:=h.inv,aaI:=h.aaI,os:=h.os,tape:=h.tape,output:=h.output,L_:=h.L_,ext:=h.ext}
end Go.PL
namespace Go.PL
open Go Go.RowKit
def gA:List V->Option (List C)
 | []=>some []
 | .c x::vs=>match gA vs with
   | some cs=>some (x::cs)
   | none=>none
 | _=>none
def DQ (P:Program) (st:St) (g:Bool) (op:Op):Prop×V:=
 match op with
 | .build t ps=>NG P st g t ps.toList
 | .binOp op t x y t'=>match (st.arg g x).2,(st.arg g y).2 with
   | .agg cs, .agg ds=>((st.arg g x).1/\(st.arg g y).1/\(kx P op t cs ds).1,(kx P op t cs ds).2)
   | _,_=>rd P st g (.binOp op t x y t')
 | .makeFunc (.func f) ⟨[]⟩ akU=>match gA (st.args g akU.toList).2 with
   | some cs=>((st.args g akU.toList).1, .c (.clo f cs))
   | none=>no
 | .makeFunc (.func f) ⟨x::xs⟩ ⟨[]⟩=>match gA (st.args g (x::xs)).2 with
   | some cs=>((st.args g (x::xs)).1, .c (.bmv f cs))
   | none=>no
 | op=>rd P st g op
variable {w:World} {G:AJ}
theorem Xy: ∀ {vs:List V} {cs:List C} {us:List Value},gA vs=some cs->Aw w G vs us->Ai w G cs us
 | [],cs,us,h,hr=>by grind [gA,Aw,Ai]
 | v::vs,cs,us,h,hr=>by
   unfold gA at h;split at h
   ·grind
   ·rename_i x vs' he;injection he with h1 h2;subst h1 h2;split at h
    ·rename_i cs' hcs;injection h with h;subst h;simp only [Aw,Ad]at hr;obtain⟨u,r,rfl,h1,h2⟩:=hr;simp only [Ai];exact⟨h1,Xy hcs h2⟩
    ·cases h
   ·cases h
theorem FP {P:Program} {F:Fr} {st:St} {a:Act} (h:R F st a w G) {g:Bool} (hg:g=true) {o:Oper} (hs:(DQ P st g o.op).1):
 ∃ v,Ad w G (DQ P st g o.op).2 v/\ ∀ w',CY w w'->(execOp a.eval o).run P w'= .ok (.value v) w':=by
 unfold DQ at *;split at hs
 ·rename_i t ps ho;obtain⟨v,q1,q2⟩:=gx h hg hs;exact⟨v,q1,(by simp_all [execOp])⟩
 ·rename_i op t x y t' ho;split at hs
  ·rename_i cs ds e1 e2;have hx:=h.arg hg hs.1;have hy:=h.arg hg hs.2.1;rw [e1]at hx;rw [e2]at hy;obtain⟨v,q1,q2⟩:=oM (P:=P) (op:=op) (t:=t) (ox:=x) (oy:=y) hx hy hs.2.2;refine⟨v,q1,fun w' hw'=>?_⟩;have:=q2 w';simp only [execOp,ho,Sem.run_bind]at this ⊢;simp_all
  grind [kj]
 ·rename_i f akU ho;split at hs
  ·rename_i cs hcs;have:=Xy hcs (h.args hg hs);refine⟨.func (.func f) #[] (akU.map a.eval),⟨_,rfl,by simpa using this⟩,(by simp_all [execOp,Instr.makeFunc])⟩
  grind
 ·rename_i f x xs ho;split at hs
  ·rename_i cs hcs;have:=Xy hcs (h.args hg hs);refine⟨.func (.func f) ((x::xs).map a.eval).toArray #[],⟨_,rfl,by simpa using this⟩,(by simp_all [execOp,Instr.makeFunc])⟩
  grind
 ·exact kj h hg hs
inductive Kind where
 | rd | ef | call (f:FuncId) (xs:List Operand) | cut (x:Operand) | no
def Cb:Op->Kind
 | .alloc _ | .box _ _ | .buildSlice .. | .makeSlice .. | .store .. => .ef
 | .assign (.const (.slice none 0 0))=> .ef
 | .slice _ x _ _ _=> .cut x
 | .call c=>match c.callee with
   | .builtin .append => .ef
   | .builtin .copy => .ef
   | .builtin _=> .rd
   | .value (.func f)=> .call f c.args.toList
   | _=> .no
 | _=> .rd
def St.cutAt (st:St) (g:Bool) (x:Operand):St:=
 match (st.arg g x).2 with
 | .c (.n_ id)=>st.freeze id
 | _=>st
abbrev ot (F:Fr) (K:St->Prop) (a:Act) (w:World):Prop:= ∃ d_ G',K d_/\R F d_ a w G'
def E4 (P:Program) (I:World->Prop) (o:Oper) (st:St) (K:St->Prop):Prop:=
 ∀ (F:Fr) (a:Act) (w:World) (G:AJ) (Q:Exit->Act->World->Prop),F.I=I->R F st a w G->o.wp P a w (ot F K) Q
def tX (P:Program) (I:World->Prop) (o:Oper) (st:St) (K:St->Prop):Prop:=
 E4 P I o st K\/match Cb o.op with
 | .rd =>(DQ P st true o.op).1/\K (st.put o.dst (DQ P st true o.op).2)
 | .ef =>(ef P st o).1/\K (ef P st o).2
 | .call f xs=>(st.args true xs).1/\B9 ((st.args true xs).2.map (BC st))=true/\
  ∃ Q,CZ P I f ((st.args true xs).2.map (BC st)) Q/\ ∀ r,Q r->(r.flat=true\/(C0 (st.args true xs).2).length <=1/\ ∀ id∈C0 (st.args true xs).2,st.acU id=true)/\K (st.after (C0 (st.args true xs).2) o.dst r)
 | .cut x=>(DQ P (st.cutAt true x) true o.op).1/\K ((st.cutAt true x).put o.dst (DQ P (st.cutAt true x) true o.op).2)
 | .no =>False
def Iz (st:St) (ops:Array Oper) (j:Nat) (want:Bool):Option Bool:=
 match ops[j]? with
 | some p=>match p.dst with
   | some t=>match st.get t with
     | .c (.bool b)=>some (b==want)
     | .g c (.c (.bool b))=>some (c&&(b==want))
     | _=>none
   | none=>none
 | none=>none
def wpG (P:Program) (I:World->Prop) (o:Oper) (st:St) (g:Bool) (K:St->Prop):Prop:=
 ((g=true->tX P I o st K)/\(g=false-> ∃ x d_,CH (st.put o.dst (.g g x)) d_/\K d_))\/match Cb o.op with
 | .rd => ∃ v,(g=true->(DQ P st g o.op).1/\(DQ P st g o.op).2=v)/\K (st.put o.dst (.g g v))
 | .call f xs=>(g=true->(st.args g xs).1/\B9 ((st.args g xs).2.map (BC st))=true)/\
  ∃ r,(r.flat=true\/C0 (st.args g xs).2=[])/\(g=true->CZ P I f ((st.args g xs).2.map (BC st)) (· =r))/\K (st.put o.dst (.g g r))
 | _=>False
def dG (P:Program) (I:World->Prop) (ops:Array Oper) (o:Oper) (st:St) (K:St->Prop):Prop:=
 match o.guard with
 | none=>tX P I o st K
 | some (j,want)=>match Iz st ops j want with
   | some g=>wpG P I o st g K
   | none=>False
def E5 (P:Program) (I:World->Prop) (ops:Array Oper):List Oper->St->(St->Prop)->Prop
 | [],st,K=>K st
 | o::rest,st,K=>dG P I ops o st (fun d_=>E5 P I ops rest d_ K)
def wq1 (P:Program) (I:World->Prop) (o:Oper) (st:St) (K:St->Prop):Prop:=
 match Cb o.op with
 | .rd =>(DQ P st true o.op).1/\K (st.put o.dst (DQ P st true o.op).2)
 | .cut _=>(DQ P st true o.op).1/\K (st.put o.dst (DQ P st true o.op).2)
 | .call f xs=>(st.args true xs).1/\B9 ((st.args true xs).2.map (BC st))=true/\
  ∃ r,r.flat=true/\CZ P I f ((st.args true xs).2.map (BC st)) (· =r)/\K (st.put o.dst r)
 | _=>False
def wqG (P:Program) (I:World->Prop) (o:Oper) (st:St) (g:Bool) (K:St->Prop):Prop:=
 match Cb o.op with
 | .rd => ∃ v,(g=true->(DQ P st g o.op).1/\(DQ P st g o.op).2=v)/\K (st.put o.dst (.g g v))
 | .cut _=> ∃ v,(g=true->(DQ P st g o.op).1/\(DQ P st g o.op).2=v)/\K (st.put o.dst (.g g v))
 | .call f xs=>(g=true->(st.args g xs).1/\B9 ((st.args g xs).2.map (BC st))=true)/\
  ∃ r,r.flat=true/\(g=true->CZ P I f ((st.args g xs).2.map (BC st)) (· =r))/\K (st.put o.dst (.g g r))
 | _=>False
def wqO (P:Program) (I:World->Prop) (ops:Array Oper) (o:Oper) (st:St) (K:St->Prop):Prop:=
 match o.guard with
 | none=>wq1 P I o st K
 | some (j,want)=>match Iz st ops j want with
   | some g=>wqG P I o st g K
   | none=>False
def dH (P:Program) (I:World->Prop) (ops:Array Oper):List Oper->St->(St->Prop)->Prop
 | [],st,K=>K st
 | o::rest,st,K=>wqO P I ops o st (fun d_=>dH P I ops rest d_ K)
section
variable {P:Program} {F:Fr} {st:St} {a:Act} {w:World} {G:AJ} {ops:Array Oper}
variable {o:Oper}
theorem FQ (h:o.guard=none) (y:Nat->Option Bool):Region.wanted o y=true:=by simp [Region.wanted,h]
variable {g:Bool}
theorem Jp (h:R F st a w G) {j:Nat} {want:Bool} (hg:o.guard=some (j,want)) (hq:Iz st ops j want=some g):Region.wanted o (yielded ops a.tmps)=g:=by
 unfold Iz at hq;split at hq
 ·rename_i p hp;split at hq
  ·rename_i t ht;have hs:=h.M_ t;have hv: ∀ v:Value,v ≠ Go.undef->a.tmps.getD t Go.undef=v->a.tmps[t]? =some v:=by intro v hne he;rw [Array.getD_eq_getD_getElem?]at he;grind
   split at hq
   ·rename_i b hb;injection hq with hq;subst hq;have:st.tm.getD t .undef = .c (.bool b):=hb;grind [Ad,Af,Go.undef,Region.wanted,yielded]
   ·rename_i c b hb;injection hq with hq;subst hq;have:st.tm.getD t .undef = .g c (.c (.bool b)):=hb;rw [this]at hs;simp only [Ad,Af]at hs;cases c with
    | true=>
      rw [if_pos rfl]at hs;grind [Go.undef,Region.wanted,yielded]
    | false=>
      simp only [false_eq_true,if_false]at hs;have hn: ∀ x,a.tmps[t]? =some (.bool x)->False:=by intro x hx;simp_all [Go.undef]
      grind [yielded,Region.wanted]
   ·cases hq
  ·cases hq
 ·cases hq
theorem R.cutAt (h:R F st a w G) (g:Bool) (x:Operand): ∃ G',R F (st.cutAt g x) a w G':=by
 unfold St.cutAt;split
 ·obtain⟨G',q,_⟩:=h.freeze _;exact⟨G',q⟩
 grind
variable {v:Value} {w':World} {Q:Exit->Act->World->Prop}
theorem AO {K:Act->World->Prop} (hr:(execOp a.eval o).run P w= .ok (.value v) w') (h:K (a.put o.dst v) w'):o.wp P a w K Q:=by grind [Oper.wp,Oper.upon]
variable {K:St->Prop}
theorem OS (h:R F st a w G) (hs:tX P F.I o st K):o.wp P a w (ot F K) Q:=by
 unfold tX at hs;rcases hs with hs | hs
 ·exact hs F a w G Q rfl h
 split at hs
 ·obtain⟨v,q1,q2⟩:=FP h rfl hs.1;exact AO (q2 w (CY.refl w)) ⟨_,G,hs.2,h.put q1⟩
 ·obtain⟨nx,w',G',q1,q2⟩:=(Rc h hs.1).out;unfold Oper.wp Oper.upon;grind
 ·rename_i f xs hk;obtain⟨h1,h2,Q',hc,hq⟩:=hs;have hr:(execOp a.eval o).run P w= .ok (.enter f (xs.map a.eval).toArray) w:=by
   unfold Cb at hk;split at hk<;>try (cases hk;done)
   rename_i c ho;split at hk<;>try (cases hk;done)
   rename_i f' ae5;injection hk with hk1 hk2;subst hk1 hk2;simp [execOp,ho,resolve,ae5,Act.eval,Deferred.ofValue,invoke,acL hc.ent];grind
  unfold Oper.wp Oper.upon;rw [hr];refine(h.called (us:=(xs.map a.eval).toArray) hc h2 (by simpa using h.args rfl h1) o.dst (by grind)).mono fun e w' ⟨v,r,G',he,q,hR⟩=>?_;subst he;exact⟨_,G',(hq r q).2,hR⟩
 ·rename_i x hk;obtain⟨G',hR⟩:=h.cutAt true x;obtain⟨v,q1,q2⟩:=FP hR rfl hs.1;exact AO (q2 w (CY.refl w)) ⟨_,G',hs.2,hR.put q1⟩
 grind
variable {d:Option Nat} {x:V}
theorem kz (h:R F st a w G) (hg:g=true) (hx:Ad w G x v):R F (st.put d (.g g x)) (a.put d v) w G:=
 h.put (by simp_all [Ad])
theorem gB (h:R F st a w G) (hg:g=false):R F (st.put d (.g g x)) (a.put d Go.undef) w G:=
 h.put (by simp [Ad,hg])
variable {f:FuncId} {xs:List Operand}
theorem Rf (hk:Cb o.op= .call f xs) (he:ent P f=true) (w:World):(execOp a.eval o).run P w= .ok (.enter f (xs.map a.eval).toArray) w:=by
 unfold Cb at hk;split at hk<;>try (cases hk;done)
 rename_i c ho;split at hk<;>try (cases hk;done)
 rename_i f' ae5;injection hk with hk1 hk2;subst hk1 hk2;simp [execOp,ho,resolve,ae5,Act.eval,Deferred.ofValue,invoke,acL he];grind
theorem Xz (h:R F st a w G) (hg:g=true) (h1:(st.args g xs).1) (h2:B9 ((st.args g xs).2.map (BC st))=true) {r:V} (hr:r.flat=true)
 (hc:CZ P F.I f ((st.args g xs).2.map (BC st)) (· =r)) (ho:NE w w') (hs:CY w w'):
 Calls P f (xs.map a.eval).toArray w' (fun e w''=>e= .returned (ku r)/\Below w'.heap.size w' w''):=by
 have hR:=h.same ho hs;have hav: ∀ b,b<w'.heap.size->(G.wr b/\ ∀ id∈C0 (st.args g xs).2,G.y_ id ≠ some b)->G.wr b:=fun _ _ q=>q.1;have h3:=G5 hR (av:=fun b=>G.wr b/\ ∀ id∈C0 (st.args g xs).2,G.y_ id ≠ some b) hav (by grind) h2 (by simpa using hR.args hg h1);refine(hc.run w' _ (fun b=>G.wr b/\ ∀ id∈C0 (st.args g xs).2,G.y_ id ≠ some b) (hR.inv w' hR.L_ hR.ext) (fun b hb=>hR.alM hb.1) (by grind)).mono fun e w'' ⟨v,r',he,hq,_,hv,hb⟩=>?_;grind [FO]
theorem dJ (h:R F st a w G) (hs:wpG P F.I o st g K):
 if g then o.wp P a w (ot F K) Q else ot F K (a.put o.dst Go.undef) w:=by
 unfold wpG at hs;rcases hs with hs | hs
 ·split
  ·grind [OS]
  ·rename_i hg;have hg':g=false:=by grind
   obtain⟨x,d_,h1,h2⟩:=hs.2 hg';exact⟨d_,G,h2,(gB h hg').less h1⟩
 split at hs
 ·obtain⟨x,hx,hs⟩:=hs;split
  ·rename_i hg;obtain⟨v,q1,q2⟩:=FP h hg (hx hg).1;rw [(hx hg).2]at q1;exact AO (q2 w (CY.refl w)) ⟨_,G,hs,kz h hg q1⟩
  ·rename_i hg;exact⟨_,G,hs,gB h (by grind)⟩
 ·rename_i f xs hk;obtain⟨h1,r,hr,hc,hK⟩:=hs;split
  ·rename_i hg;unfold Oper.wp Oper.upon;rw [Rf hk (hc hg).ent w];rcases hr with hr | hne
   rotate_left
   ·have hp:=(h1 hg).2;have h2:=G5 h (av:=fun b=>G.wr b) (fun _ _ q=>q) (by grind) hp (by simpa using h.args hg (h1 hg).1:Aw w G (st.args g xs).2 (xs.map a.eval));refine((hc hg).run w (xs.map a.eval).toArray (fun b=>G.wr b) (h.inv w h.L_ h.ext) (fun b hb=>h.alM hb) (by grind)).mono fun e w' ⟨v,r',he,hq,hpr,hr',hb⟩=>?_;subst he hq;exact⟨_,G,hK,kz (h.same (Ee hb) (Fz hb)) hg (by grind [Xq])⟩
   refine(Xz h hg (h1 hg).1 (h1 hg).2 hr (hc hg) ⟨rfl,rfl,rfl⟩ (CY.refl w)).mono fun e w' ⟨he,hb⟩=>?_;subst he;exact⟨_,G,hK,kz (h.same (Ee hb) (Fz hb)) hg ((FO hr).2 rfl)⟩
  ·rename_i hg;exact⟨_,G,hK,gB h (by grind)⟩
 grind
theorem U1 (hQ: ∀ d_ a' w' G',K d_->R F d_ a' w' G'->Q .normal a' w'):
 ∀ (l:List Oper) (st:St) (a:Act) (w:World) (G:AJ),R F st a w G->E5 P F.I ops l st K->wpList P ops Q l a w
 | [],st,a,w,G,h,hs=>hQ st a w G hs h
 | o::rest,st,a,w,G,h,hs=>by
   refine wpList_step fun K' hK'=>?_;have alq: ∀ a' w',ot F (fun d_=>E5 P F.I ops rest d_ K) a' w'->K' a' w':=fun a' w' ⟨d_,G',q,hR⟩=>
    hK' a' w' (U1 hQ rest d_ a' w' G' hR q)
   have ay3: ∀ {o:Oper},o.wp P a w (ot F (fun d_=>E5 P F.I ops rest d_ K)) Q->o.wp P a w K' Q:=fun {o} hw=>by
    unfold Oper.wp Oper.upon at *;generalize (execOp a.eval o).run P w=r at *;cases r with
    | ok n w'=>
      cases n<;>simp only at hw ⊢ <;>first
       | exact alq _ _ hw
       | exact hw.mono fun e w'' he=>by grind
       | exact Rows.mono hw fun v w'' he=>alq _ _ he
       | exact hw
    | halt x w'=>grind
   simp only [E5,dG]at hs;split at hs
   ·rename_i hg;rw [FQ hg,if_pos rfl];exact ay3 (OS h hs)
   ·rename_i j want hg;split at hs
    ·rename_i g hq;rw [Jp h hg hq];have:=dJ (Q:=Q) h hs;grind
    grind
end
end Go.PL
namespace Go.PL
open Go Go.RowKit
section
variable {P:Program} {F:Fr} {st:St} {a:Act} {w:World} {G:AJ} {ops:Array Oper}
def PE (w:World) (w':World):Prop:=NE w w'/\CY w w'
theorem PE.below {w w' w'':World} (h:PE w w') (hb:Below w'.heap.size w' w''):PE w w'':=
 ⟨⟨hb.os.trans h.1.os,hb.tape.trans h.1.tape,hb.output.trans h.1.output⟩,h.2.trans (Fz hb)⟩
variable {o:Oper}
theorem Jq {v:Value} {K:Act->Prop} (hr: ∀ w',CY w w'->(execOp a.eval o).run P w'= .ok (.value v) w') (h:K (a.put o.dst v)):o.quiet P a (PE w) K:=
 ⟨v,fun w' hw'=>by unfold Oper.quietAt;rw [hr w' hw'.2];exact⟨rfl,rfl⟩,h⟩
variable {K:St->Prop} {K':Act->Prop}
theorem tY (h:R F st a w G) (hK: ∀ d_ a',K d_->R F d_ a' w G->K' a') (hs:wq1 P F.I o st K):o.quiet P a (PE w) K':=by
 unfold wq1 at hs;split at hs
 ·obtain⟨v,q1,q2⟩:=FP h rfl hs.1;exact Jq q2 (hK _ _ hs.2 (h.put q1))
 ·obtain⟨v,q1,q2⟩:=FP h rfl hs.1;exact Jq q2 (hK _ _ hs.2 (h.put q1))
 ·rename_i f xs hk;obtain⟨h1,h2,r,hr,hc,hq⟩:=hs;refine⟨ku r,fun w' hw'=>?_,hK _ _ hq (h.put ((FO hr).2 rfl))⟩;unfold Oper.quietAt;rw [Rf hk hc.ent w'];exact⟨rfl,(Xz h rfl h1 h2 hr hc hw'.1 hw'.2).mono fun e w'' ⟨he,hb⟩=>⟨he,hw'.below hb⟩⟩
 grind
theorem tZ (h:R F st a w G) {g:Bool} (hK: ∀ d_ a',K d_->R F d_ a' w G->K' a') (hs:wqG P F.I o st g K):
 if g then o.quiet P a (PE w) K' else K' (a.put o.dst Go.undef):=by
 unfold wqG at hs;have aBx:(∃ x,(g=true->(DQ P st g o.op).1/\(DQ P st g o.op).2=x)/\K (st.put o.dst (.g g x)))->if g then o.quiet P a (PE w) K' else K' (a.put o.dst Go.undef):=by
  rintro⟨x,hx,hs⟩;split
  ·rename_i hg;obtain⟨v,q1,q2⟩:=FP h hg (hx hg).1;rw [(hx hg).2]at q1;exact Jq q2 (hK _ _ hs (kz h hg q1))
  ·rename_i hg;exact hK _ _ hs (gB h (by grind))
 split at hs
 ·grind
 ·grind
 ·rename_i f xs hk;obtain⟨h1,r,hr,hc,hq⟩:=hs;split
  ·rename_i hg;refine⟨ku r,fun w' hw'=>?_,hK _ _ hq (kz h hg ((FO hr).2 rfl))⟩;unfold Oper.quietAt;rw [Rf hk (hc hg).ent w'];exact⟨rfl,(Xz h hg (h1 hg).1 (h1 hg).2 hr (hc hg) hw'.1 hw'.2).mono fun e w'' ⟨he,hb⟩=>⟨he,hw'.below hb⟩⟩
  grind
 grind
theorem U2 {Q':Act->Prop} (hQ: ∀ d_ a',K d_->R F d_ a' w G->Q' a'):
 ∀ (l:List Oper) (st:St) (a:Act),R F st a w G->dH P F.I ops l st K->wpQuiet P ops (PE w) Q' l a
 | [],st,a,h,hs=>hQ st a hs h
 | o::rest,st,a,h,hs=>by
   have alq: ∀ d_ a',dH P F.I ops rest d_ K->R F d_ a' w G->wpQuiet P ops (PE w) Q' rest a':=fun d_ a' q hR=>U2 hQ rest d_ a' hR q;simp only [dH,wqO]at hs;simp only [wpQuiet];split at hs
   ·rename_i hg;rw [FQ hg,if_pos rfl];exact tY h alq hs
   ·rename_i j want hg;split at hs
    ·rename_i g hq;rw [Jp h hg hq];exact tZ h alq hs
    grind
def Aq (P:Program) (F:Fr) (c:Code) (st:St) (Q:Exit->St->Prop):Prop:=
 ∀ a w G,R F st a w G->c.wp P (fun e a' w'=> ∃ d_ G',Q e d_/\R F d_ a' w' G') a w
def Cr (K:St->Prop) (Q:Exit->St->Prop):Exit->St->Prop
 | .normal,st=>K st
 | e,st=>Q e st
def Cc (id:Nat) (Q:Exit->St->Prop):Exit->St->Prop
 | .exit j,st=>if j=id then Q .normal st else Q (.exit j) st
 | e,st=>Q e st
variable {x y:Code} {Q:Exit->St->Prop}
theorem Aq.seq (h:Aq P F x st (Cr (fun d_=>Aq P F y d_ Q) Q)):Aq P F (.seq x y) st Q:=
 fun a w G hR=>wp_seq (Code.wp_mono (fun e a' w' ⟨d_,G',q,hR'⟩=>by cases e<;>simp only [Exit.then,Cr]at q ⊢ <;>first | exact q a' w' G' hR' | grind) (h a w G hR))
theorem Aq.skip (h:Q .normal st):Aq P F .skip st Q:=fun _ _ G hR=>wp_skip ⟨st,G,h,hR⟩
theorem Aq.ret (h:Q .ret st):Aq P F .ret st Q:=fun _ _ G hR=>wp_ret ⟨st,G,h,hR⟩
theorem Aq.exit {id:Nat} (h:Q (.exit id) st):Aq P F (.exit id) st Q:=fun _ _ G hR=>wp_exit ⟨st,G,h,hR⟩
variable {c:Code}
theorem Aq.block {id:Nat} (h:Aq P F c st (Cc id Q)):Aq P F (.block id c) st Q:=
 fun a w G hR=>wp_block (Code.wp_mono (fun e a' w' ⟨d_,G',q,hR'⟩=>by
  cases e<;>simp only [Exit.inBlock,Cc]at q ⊢ <;>first
   | grind
   | grind) (h a w G hR))
theorem Aq.cond {c:Operand} {b:Bool} (hc:st.ev c= .c (.bool b)) (h1:b=true->Aq P F x st Q) (h2:b=false->Aq P F y st Q):Aq P F (.cond c x y) st Q:=by
 intro a w G hR;have:=hR.ev c;rw [hc]at this;simp only [Ad,Af]at this;refine wp_cond this ?_;cases b with
 | true=>exact h1 rfl a w G hR
 | false=>exact h2 rfl a w G hR
variable {ops:Array Oper}
theorem Aq.region {id:Nat} (h:E5 P F.I ops ops.toList st (Q .normal)):Aq P F (.region id ops false) st Q:=
 fun a w G hR=>wp_region_list (U1 (K:=Q .normal) (fun d_ _ _ G' q hR'=>⟨d_,G',q,hR'⟩) _ _ _ _ _ hR h)
theorem Aq.asZ {id:Nat} (h1:P.follows .mixedOrders =true) (h2:Region.lexB .any ops=true) (h:dH P F.I ops ops.toList st (Q .normal)):Aq P F (.region id ops true) st Q:=by intro a w G hR;refine wp_region_quiet (C:=PE w) h1 h2 ⟨⟨rfl,rfl,rfl⟩,⟨le_refl _,fun _ _=>rfl⟩⟩ ?_;exact U2 (K:=Q .normal) (fun d_ a' q hR' w' hw'=>⟨d_,G,q,hR'.same hw'.1 hw'.2⟩) _ _ _ hR h
theorem Aq.mono {Q':Exit->St->Prop} (h:Aq P F c st Q) (hq: ∀ e d_,Q e d_->Q' e d_):Aq P F c st Q':=
 fun a w G hR=>Code.wp_mono (by grind) (h a w G hR)
theorem Aq.less {d_:St} (hl:CH st d_) (h:Aq P F c d_ Q):Aq P F c st Q:=
 fun a w G hR=>h a w G (hR.less hl)
theorem Aq.loop {X:Type} (S:X->St) (inv:X->Prop) (μ:X->Nat) (x0:X) (h0:inv x0) (hl:CH st (S x0))
 (hb: ∀ x,inv x->Aq P F c (S x) (Cr (fun d_=> ∃ y,inv y/\μ y<μ x/\CH d_ (S y)) Q)):Aq P F (.loop c) st Q:=by
 intro a w G hR;refine wp_loop_ghost (fun n a' w'=> ∃ x G',inv x/\μ x=n/\R F (S x) a' w' G') (μ x0) ⟨x0,G,h0,rfl,hR.less hl⟩ ?_;intro n a' w' ⟨x,G',hx,hn,hR'⟩;subst hn;refine Code.wp_mono (fun e a'' w'' ⟨d_,G'',q,azw⟩=>?_) (hb x hx a' w' G' hR');cases e<;>simp only [Cr]at q
 case normal=>
  obtain⟨y,hy,hm,hl'⟩:=q;exact⟨μ y,hm,y,G'',hy,rfl,azw.less hl'⟩
 all_goals exact⟨d_,G'',q,azw⟩
end
end Go.PL
namespace Go.PL
open Go Go.RowKit
def Rh (P:Program) (st:St):ResultVar->Prop×V
 | .tmp t=>(True,BC st (st.get t))
 | .cell t T=>let r:=DJ P T st (st.get t)
   (r.1,BC st r.2)
def FR (P:Program) (st:St):List ResultVar->Prop×List V
 | []=>(True,[])
 | x::xs=>((Rh P st x).1/\(FR P st xs).1,(Rh P st x).2::(FR P st xs).2)
def D0 (P:Program) (st:St):List ResultVar->Prop×V
 | [x]=>Rh P st x
 | xs=>((FR P st xs).1, .tup (FR P st xs).2)
def rO (P:Program) (fn:Func) (Q:V->Prop):Exit->St->Prop
 | .normal,st=>(D0 P st fn.results.toList).1/\(D0 P st fn.results.toList).2.pure =true/\Q (D0 P st fn.results.toList).2
 | .ret,st=>(D0 P st fn.results.toList).1/\(D0 P st fn.results.toList).2.pure =true/\Q (D0 P st fn.results.toList).2
 | _,_=>False
def St.start (args:List V) (n:Nat):St:={tm:=args++List.replicate (n - args.length) .undef,so:=[]}
variable {w:World}
theorem ER {G:AJ}: ∀ {xs:List V} {vs:List Value},Aw w G xs vs->xs.length=vs.length
 | [],vs,h=>by grind [Aw]
 | x::xs,vs,h=>by simp only [Aw]at h;obtain⟨v,r,rfl,_,h2⟩:=h;simp [ER h2]
def Ik (I:World->Prop):Prop:= ∀ w w':World,I w->w.heap.size<=w'.heap.size->(∀ b,b<w.heap.size->w'.heap[b]? =w.heap[b]?)->I w'
variable {I:World->Prop} {args:List V}
theorem R.start (hst:Ik I) (hI:I w) {vs:Array Value} {av:Nat->Prop} (hav: ∀ b,av b->b<w.heap.size) (h:Aw w (im av) args vs.toList) (n:Nat):
 R ⟨w,av,fun _=>False,I,[]⟩ (St.start args n) {tmps:=vs++Array.replicate (n - vs.size) Go.undef,defers:=[]} w (im av):=by
 have hl:=ER h;have hl':args.length=vs.size:=by grind
 exact {
  dfr:=rfl
  size:=by simp [St.start,hl']
  M_:=by
   intro i;simp only [St.start,List.getD_eq_getElem?_getD,Array.getD_eq_getD_getElem?];by_cases hi:i<args.length
   ·grind [IW]
   grind [Ad]
  Tk:=by simp [St.start,Aw]
  store:=by simp [St.start]
  deep:=by simp [St.start]
  P_:=by simp [St.start]
  nodup:=by simp [St.start]
  inj:=by simp [im]
  lt:=by simp [im]
  new:=by simp [im]
  wr:=by simp [im]
  abi:=hav
  inv:=fun w' h1 h2=>hst w w' hI h1 (by grind)
  aaI:=by simp
  os:=rfl,tape:=rfl,output:=rfl,L_:=le_refl _,ext:=fun _ _ _=>rfl}
section
variable {P:Program} {F:Fr} {st:St} {a:Act} {w:World} {G:AJ}
variable {x:V}
theorem R.out (h:R F st a w G) (hold: ∀ b, ¬F.old b) {v:Value} (hp:(BC st x).pure =true) (hr:Ad w G x v):Ad w (im F.av) (BC st x) v:=by
 refine dE h (fun b _ hb=>(h.wr b).2 (.inl hb)) (fun id _ _ b hb hav=>?_) hp hr;rcases h.new id b hb with q | q
 ·have:=h.abi b hav;omega
 grind
theorem dK {t:TypeId} {u:Value} (hx:Ad w G x u) (hs:(DJ P t st x).1): ∃ p,u= .pointer (some p):=by
 unfold DJ at hs;split at hs
 ·simp only [Ad,Af]at hx;grind
 ·simp only [Ad,Af]at hx;grind
 grind
def Jr (tmps:Array Value):ResultVar->Sem Value
 | .tmp t=>pure (tmps.getD t Go.undef)
 | .cell a t=>do loadVar t (<-asAddr (tmps.getD a Go.undef))
theorem XA (h:R F st a w G) (hold: ∀ b, ¬F.old b) {x:ResultVar} (hs:(Rh P st x).1) (hp:(Rh P st x).2.pure =true):
 ∃ v,(Jr a.tmps x).run P w= .ok v w/\Ad w (im F.av) (Rh P st x).2 v:=by
 cases x with
 | tmp t=>exact⟨_,rfl,h.out hold hp (h.M_ t)⟩
 | cell t T=>
   simp only [Rh]at hs hp ⊢;obtain⟨v,q1,q2⟩:=NC (P:=P) h (h.M_ t) hs;obtain⟨p,aDk⟩:=dK (h.M_ t) hs;refine⟨v,?_,h.out hold hp q1⟩;grind [CY.refl,Jr,asAddr,Instr.loadAt,Instr.sureAddr]
theorem U3 (h:R F st a w G) (hold: ∀ b, ¬F.old b): ∀ {xs:List ResultVar},(FR P st xs).1->B9 (FR P st xs).2=true->
 ∃ vs,(xs.mapM (Jr a.tmps)).run P w= .ok vs w/\Aw w (im F.av) (FR P st xs).2 vs
 | [],_,_=>(by simp_all [FR,Aw])
 | x::xs,hs,hp=>by simp only [FR]at hs hp ⊢;simp only [B9,and_eq_true]at hp;obtain⟨v,q1,q2⟩:=XA h hold hs.1 hp.1;obtain⟨vs,k1,k2⟩:=U3 h hold hs.2 hp.2;exact⟨v::vs,by simp_all,by simp only [Aw];grind⟩
variable {fn:Func}
theorem FS {tmps:Array Value} {vs:List Value} (h:(fn.results.toList.mapM (Jr tmps)).run P w= .ok vs w):
 (results fn tmps).run P w= .ok (match vs with | [v]=>v | vs=> .tuple vs.toArray) w:=by
 have e:fn.results.mapM (Jr tmps)=List.toArray<$>fn.results.toList.mapM (Jr tmps):=by obtain⟨l,hl⟩: ∃ l:List ResultVar,fn.results=l.toArray:=(by grind);grind
 have e2:results fn tmps=(do
  let vs <-fn.results.mapM (Jr tmps)
  pure (if h:vs.size=1 then vs[0]else .tuple vs)):=by
  unfold results;congr 1
  all_goals (try (congr 1;funext x;cases x<;>rfl))
 rw [e2,e];simp only [Sem.run_bind,Sem.run_map,h,Result.andThen_ok]
 match vs with
 | []=>simp
 | [v]=>simp
 | v::u::vs=>simp
theorem oN (h:R F st a w G) (hold: ∀ b, ¬F.old b) (hs:(D0 P st fn.results.toList).1) (hp:(D0 P st fn.results.toList).2.pure =true):
 ∃ v,(results fn a.tmps).run P w= .ok v w/\Ad w (im F.av) (D0 P st fn.results.toList).2 v:=by
 unfold D0 at *;split at hs
 ·rename_i x hx;simp only [hx]at hp ⊢;obtain⟨v,q1,q2⟩:=XA h hold hs hp;simp_all [FS]
 ·rename_i xs hne;split at hp
  ·grind
  ·obtain⟨vs,q1,q2⟩:=U3 h hold hs (by simpa only [V.pure] using hp);refine⟨.tuple vs.toArray,?_,?_⟩
   ·have:=FS (P:=P) (w:=w) (fn:=fn) (tmps:=a.tmps) q1;rw [this];have hl:=ER q2
    match hvs:vs with
    | []=>rfl
    | [v]=>
      exfalso;have hxl: ∀ xs:List ResultVar,(FR P st xs).2.length =xs.length:=by intro xs;induction xs<;>grind [FR]
      rw [hxl]at hl
      match hr:fn.results.toList,hl with
      | [x],_=>grind
    | v::u::vs=>rfl
   ·simp only [Ad];grind
theorem R.below (h:R F st a w G) (hold: ∀ b, ¬F.old b):Below F.w0.heap.size F.w0 w:=⟨h.os,h.tape,h.output,h.L_,fun b hb=>h.ext b hb (hold b)⟩
end
theorem CZ.of {P:Program} (hst:Ik I) {f:FuncId} {fn:Func} {c:Code} {Q:V->Prop} (abR:PL.ent P f=true) (hf:P.funcs[f]? =some fn) (hb:fn.body=some c)
 (h: ∀ F,F.I=I->Aq P F c (St.start args fn.ntmps) (rO P fn Q)):CZ P I f args Q:=by
 refine⟨abR,fun w vs av hI hav acY=>calls_of_wp hf hb ?_⟩;have hR:=R.start hst hI hav acY fn.ntmps;refine Code.wp_mono (fun e a' w' ⟨d_,G',q,hR'⟩=>?_) (h _ rfl _ _ _ hR);have fin:(D0 P d_ fn.results.toList).1/\(D0 P d_ fn.results.toList).2.pure =true/\Q (D0 P d_ fn.results.toList).2->
  a'.defers=[]/\ ∃ v,(results fn a'.tmps).run P w'= .ok v w'/\(fun(e:Ending) w''=> ∃ v r,e= .returned v/\Q r/\r.pure=true/\Ad w'' (im av) r v/\Below w.heap.size w w'') (.returned v) w':=by
  intro ⟨q1,q2,q3⟩;obtain⟨v,k1,k2⟩:=oN hR' (fun _ hx=>hx) (fn:=fn) q1 q2;exact⟨hR'.dfr,v,k1,v,_,rfl,q3,q2,k2,hR'.below (fun _ hx=>hx)⟩
 cases e<;>simp only [rO]at q<;>first | exact fin q | exact q.elim
end Go.PL
namespace Go.PL
open Go Go.RowKit
section
variable {P:Program} {I:World->Prop} {F:Fr} {ops:Array Oper} {rest:List Oper} {st st1:St} {d:Option Nat} {op:Op} {ty:TypeId} {pos:String} {af:Array Edge}
variable {K:St->Prop}
theorem Cc.out {Q:Exit->St->Prop} {i:Nat} (h:Q .normal st):Cc i Q (.exit i) st:=by simp_all [Cc]
variable {j:Nat} {want g:Bool}
theorem CZ.body (aiK:Ik I) {f:FuncId} {fn:Func} {c:Code} {args:List V} {Q:V->Prop} {n:Nat} {rs:List ResultVar} (abR:PL.ent P f=true) (hf:P.funcs[f]? =some fn) (hb:fn.body=some c) (hn:fn.ntmps=n) (hr:fn.results=rs.toArray)
 (hst:St.start args n=st)
 (h: ∀ w0 av old gv,Aq P ⟨w0,av,old,I,gv⟩ c st (fun e d_=>(e= .normal \/e= .ret)/\(D0 P d_ rs).1/\(D0 P d_ rs).2.pure =true/\Q (D0 P d_ rs).2)):CZ P I f args Q:=by
 refine CZ.of aiK abR hf hb (fun F hF=>?_);obtain⟨w0,av,old,I',gv⟩:=F;simp only at hF;subst hF;rw [hn,hst];refine(h w0 av old gv).mono fun e d_ ⟨he,q⟩=>?_;have:fn.results.toList=rs:=by rw [hr]
 rcases he with rfl | rfl<;>simp only [rO,this]<;>exact q
end
end Go.PL
namespace Go.PL
open Go Go.RowKit
attribute [go_sem] Cb DQ rd Z_ Qc St.arg St.args St.ev St.get Me CJ DZ Xm Qb V4 ND BI Ke Lu Lv zZ bL oI C3 bK
 St.put St.after St.look St.ac9 St.adH St.cutAt St.freeze St.new St.kill AB.kill St.start St.parts
 DJ toV BV Jf B8 Ih GY P9 oE oF KQ Kh Kg Mg NG Jm V.cells G4 V5 oJ Gf UY Kk Bf PL.ef Ra
 Iz Km BC Re wt C0 HJ EZ C.E_ BO V.E_ KN C.flat V.flat KR C.pure Au V.pure B9 D0 Rh FR Ka Lz M6 St.acU
attribute [go_sem] getD_cons_zero List.getD_cons_succ List.set_cons_zero List.set_cons_succ map_cons List.map_nil List.filter_cons List.filter_nil List.find?_cons List.find?_nil
 cons_append List.nil_append List.length_cons List.length_nil List.replicate_succ List.replicate_zero List.take_succ_cons List.take_zero List.drop_succ_cons List.drop_zero flatMap_cons List.flatMap_nil List.append_nil
 List.all_cons List.all_nil Bool.and_true Bool.true_and Bool.and_false Bool.false_and Bool.or_false Bool.or_true Bool.false_or Bool.true_or
 beq_self_eq_true if_true if_false true_and and_true map_some Option.map_none List.getElem?_cons_zero List.getElem?_cons_succ
variable {α:Type}
theorem Adx (a b:α):(if true then a else b)=a:=rfl
theorem Ady (a b:α):(if false then a else b)=b:=rfl
theorem Ags:(true=true)=True:=by simp
theorem Agt:(false=true)=False:=by simp
theorem Adz (p:Prop):(true=true->p)=p:=by simp
theorem atc (b:Bool):(if b then true else false)=b:=by grind
theorem ap7 (b:Bool):(b==true)=b:=by simp_all
theorem aom (b:Bool):(b==false)= !b:=by grind
theorem Aai (b c:Bool):(if b then c else false)=(b&&c):=by grind
theorem AdA (b c:Bool):(if b then true else c)=(b||c):=by grind
attribute [go_sem] Adx Ady Ags Agt Adz atc ap7 aom Aai AdA Bool.not_true Bool.not_false Bool.not_not
end Go.PL
