/- The pure logic: PlA, PlB, PlC, PlD, PlE, PlF, PlG, PlH, PlI, PlJ, PlK, PlL, PlLe, PlM, PlN, PlO, PlP, PlQ. -/
import Derived.WalkKit
import Derived.WalkSpells
import Derived.WalkLawsBesides
import Derived.Deep.MidRow
import Derived.Deep.LoopGhost
import Derived.Deep.QuietTactic
import Derived.BigQuiet
import Derived.Laws.StructEq
import Derived.DeepKeys
open Nat (le_refl lt_of_lt_of_le zero_le add_mul le_trans add_zero)
open Bool (and_eq_true false_eq_true not_eq_true')
open List (map_cons mem_map mem_filter take_append_drop find?_some drop_drop flatMap_cons mem_iff_getElem getD_cons_zero cons_append foldl_cons map_map)
open Option.some (injEq)
open Option (map_some)
set_option linter.all false
namespace Go.PL
open Go Go.RowKit
abbrev Ak:=List Nat
inductive C where
 | int (k:IntKind) (n:Int)
 | bool (b:Bool)
 | str (s:List UInt8)
 | sl (len:Nat) (cs:List C)
 | h_ (id:Ak)
 | ptr (id:Ak) (off:Nat)
 | bsl (id:Ak) (off len:Nat)
 | bld (id:Ak) (T:TypeId)
 | abO (cs:List C) (off:Nat)
 | acg
 | aas
 | L_
 | fn (f:FuncId)
 | clo (f:FuncId) (cs:List C)
 | held
 | any
 | afN (id:Ak)
 | afY (g off:Nat)
 | bmv (f:FuncId) (cs:List C)
 | mp (kv:List (Int×Int))
 | isl (E:TypeId) (n len:Nat) (cs:List C)
 | rsl (id:Ak) (N off len:Nat)
inductive V where
 | c (x:C)
 | agg (cs:List C)
 | tup (vs:List V)
 | g (b:Bool) (v:V)
 | undef
structure AG where
 p_:Ak->Option Nat
 own:Ak->Option Value
 wr:Nat->Prop
mutual
def C.pure:C->Bool
 | .h_ _=>false
 | .ptr .. =>false
 | .bsl .. =>false
 | .rsl .. =>false
 | .bld .. =>false
 | .afN _=>false
 | .mp _=>false
 | .clo _ cs=>Ap cs
 | .bmv _ cs=>Ap cs
 | _=>true
def Ap:List C->Bool
 | []=>true
 | c::cs=>c.pure&&Ap cs
end
mutual
def Ah (w:World) (G:AG):C->Value->Prop
 | .int k n,v=>v= .int k n
 | .bool b,v=>v= .bool b
 | .str s,v=>v= .string ⟨s.toArray⟩
 | .sl len cs,v=>Ap cs=true/\ ∃ a cap,v= .slice a len cap/\len<=cap/\cap<=maxLen/\(len=0->cs=[])/\
  (len=0\/ ∃ b off,a=some ⟨b,off,none⟩/\ ¬G.wr b/\b<w.heap.size/\An w G cs b off)
 | .h_ id,v=>G.own id=some v/\v.oneCell'=true
 | .ptr id off,v=> ∃ b,G.p_ id=some b/\v= .pointer (some ⟨b,off,none⟩)
 | .bsl id off len,v=> ∃ b cap o,G.p_ id=some b/\v= .slice (some ⟨b,o,none⟩) len cap/\len<=cap/\o<=off/\(len=0\/o=off)
 | .bld id T,v=> ∃ b,G.p_ id=some b/\(∃ cur fz,w.heap[b]? =some (.cells cur T fz))/\(v= .pointer none\/v= .pointer (some ⟨b,0,none⟩))
 | .abO cs off,v=>Ap cs=true/\ ∃ b o,v= .pointer (some ⟨b,o+off,none⟩)/\ ¬G.wr b/\b<w.heap.size/\An w G cs b o
 | .acg,v=>v= .pointer none
 | .aas,v=>v= .nilIface
 | .L_,v=>v= .slice none 0 0
 | .fn f,v=>v= .func (.func f) #[] #[]
 | .clo f cs,v=> ∃ arr:Array Value,v= .func (.func f) #[] arr/\Al w G cs arr.toList
 | .bmv f cs,v=> ∃ arr:Array Value,v= .func (.func f) arr #[]/\Al w G cs arr.toList
 | .held,v=> ∃ t x,v= .iface t x
 | .any,v=>v.oneCell'=true
 | .afN id,v=> ∃ b,G.p_ id=some b/\v= .map (some b)
 | .afY g off,v=>v= .pointer (some ⟨g,off,none⟩)
 | .mp _,_=>False
 | .isl ..,v=>v.oneCell'=true
 | .rsl id N off len,v=> ∃ b ahu ahG o cap,G.own id=some (.slice (some ⟨b,0,none⟩) ahu ahG)/\v= .slice (some ⟨b,o,none⟩) len cap/\len<=cap/\off+cap=ahG/\(off<ahG->o=off*N)
def An (w:World) (G:AG):List C->Nat->Nat->Prop
 | [],_,_=>True
 | c::cs,b,off=>(∃ v,w.cell? ⟨b,off,none⟩=some v/\Ah w G c v)/\An w G cs b (off+1)
def Al (w:World) (G:AG):List C->List Value->Prop
 | [],[]=>True
 | c::cs,v::vs=>Ah w G c v/\Al w G cs vs
 | [],_::_=>False
 | _::_,[]=>False
end
mutual
def Ae (w:World) (G:AG):V->Value->Prop
 | .c x,v=>Ah w G x v
 | .agg cs,v=> ∃ arr,v= .agg arr/\Al w G cs arr.toList
 | .tup vs,v=> ∃ arr,v= .tuple arr/\Aq w G vs arr.toList
 | .g b x,v=>if b then Ae w G x v else v=Go.undef
 | .undef,_=>True
def Aq (w:World) (G:AG):List V->List Value->Prop
 | [],vs=>vs=[]
 | x::xs,vs=> ∃ v r,vs=v::r/\Ae w G x v/\Aq w G xs r
end
mutual
def C.s_ (id:Ak):C->Bool
 | .h_ i=>i==id
 | .ptr i _=>i==id
 | .bsl i _ _=>i==id
 | .rsl i _ _ _=>i==id
 | .bld i _=>i==id
 | .afN i=>i==id
 | .clo _ cs=>BS id cs
 | .bmv _ cs=>BS id cs
 | _=>false
def BS (id:Ak):List C->Bool
 | []=>false
 | c::cs=>c.s_ id||BS id cs
end
mutual
theorem H7 (id:Ak): ∀ c:C,c.pure=true->c.s_ id=false
 | .h_ _,h=>by simp [C.pure]at h
 | .ptr ..,h=>by simp [C.pure]at h
 | .bsl ..,h=>by simp [C.pure]at h
 | .rsl ..,h=>by simp [C.pure]at h
 | .bld ..,h=>by simp [C.pure]at h
 | .afN ..,h=>by simp [C.pure]at h
 | .mp ..,h=>by simp [C.pure]at h
 | .isl ..,_=>by simp [C.s_]
 | .afY ..,_=>by simp [C.s_]
 | .clo _ cs,h=>by simp only [C.s_];exact AQ id cs (by simpa only [C.pure] using h)
 | .bmv _ cs,h=>by simp only [C.s_];exact AQ id cs (by simpa only [C.pure] using h)
 | .sl ..,_=>by simp [C.s_]
 | .abO ..,_=>by simp [C.s_]
 | .int ..,_=>by simp [C.s_]
 | .bool _,_=>by simp [C.s_]
 | .str _,_=>by simp [C.s_]
 | .acg,_=>by simp [C.s_]
 | .aas,_=>by simp [C.s_]
 | .L_,_=>by simp [C.s_]
 | .fn _,_=>by simp [C.s_]
 | .held,_=>by simp [C.s_]
 | .any,_=>by simp [C.s_]
theorem AQ (id:Ak): ∀ cs:List C,Ap cs=true->BS id cs=false
 | [],_=>by simp [BS]
 | c::cs,h=>by simp only [Ap,and_eq_true]at h;simp [BS,H7 id c h.1,AQ id cs h.2]
end
theorem Cu: ∀ l:List C,Ap l=l.all C.pure
 | []=>rfl
 | c::l=>by simp [Ap,Cu l]
theorem B0 (l m:List C):Ap (l++m)=(Ap l&&Ap m):=by simp [Cu]
theorem PI {α:Type} (f:α->C) (h: ∀ x,(f x).pure =true) (l:List α):Ap (l.map f)=true:=by simp [Cu,h]
theorem AX {α:Type} (f:α->List C) (h: ∀ x,Ap (f x)=true): ∀ l:List α,Ap (l.flatMap f)=true
 | []=>rfl
 | a::l=>by rw [flatMap_cons,B0,h,AX f h l];rfl
theorem MF {l:List C} (n:Nat) (h:Ap l=true):Ap (l.take n)=true:=by grind [Cu]
theorem MG {l:List C} (n:Nat) (h:Ap l=true):Ap (l.drop n)=true:=by grind [Cu]
theorem tt {l:List C} (n:Nat) (h:Ap l=true):(l.getD n .any).pure =true:=by
 rw [List.getD_eq_getElem?_getD];cases hx:l[n]? with
 | none=>rfl
 | some x=>grind [Cu]
def KO (S:Ak->Prop) (G G':AG):Prop:= ∀ id,S id->G'.p_ id=G.p_ id/\G'.own id=G.own id
def Cg (w w':World) (b:Nat):Prop:= ∀ cur T fz,w.heap[b]? =some (.cells cur T fz)-> ∃ adr fz',w'.heap[b]? =some (.cells adr T fz')
theorem Cg.same {w w':World} {b:Nat} (h:w'.heap[b]? =w.heap[b]?):Cg w w' b:=fun cur _ fz q=>⟨cur,fz,h.trans q⟩
structure Cl (G G':AG) (w w':World):Prop where
 size:w.heap.size<=w'.heap.size
 block: ∀ b,b<w.heap.size-> ¬G.wr b->w'.heap[b]? =w.heap[b]?
 wr: ∀ b,b<w.heap.size->G'.wr b->G.wr b
 ty: ∀ i b,G.p_ i=some b->G'.p_ i=some b->Cg w w' b
mutual
theorem Ah.one {w:World} {G:AG}: ∀ {c:C} {v:Value},Ah w G c v->v.oneCell'=true
 | .int ..,v,h=>by simp only [Ah]at h;subst h;rfl
 | .bool ..,v,h=>by simp only [Ah]at h;subst h;rfl
 | .str ..,v,h=>by simp only [Ah]at h;subst h;rfl
 | .sl ..,v,h=>by simp only [Ah]at h;obtain⟨_,a,cap,rfl,_⟩:=h;rfl
 | .h_ _,v,h=>by grind [Ah]
 | .ptr ..,v,h=>by simp only [Ah]at h;obtain⟨b,_,rfl⟩:=h;rfl
 | .bsl ..,v,h=>by simp only [Ah]at h;obtain⟨b,cap,o,_,rfl,_⟩:=h;rfl
 | .rsl ..,v,h=>by simp only [Ah]at h;obtain⟨_,_,_,_,_,_,rfl,_⟩:=h;rfl
 | .bld ..,v,h=>by simp only [Ah]at h;obtain⟨b,_,_,rfl | rfl⟩:=h<;>rfl
 | .abO ..,v,h=>by simp only [Ah]at h;obtain⟨_,b,o,rfl,_⟩:=h;rfl
 | .acg,v,h=>by simp only [Ah]at h;subst h;rfl
 | .aas,v,h=>by simp only [Ah]at h;subst h;rfl
 | .L_,v,h=>by simp only [Ah]at h;subst h;rfl
 | .fn _,v,h=>by simp only [Ah]at h;subst h;rfl
 | .clo ..,v,h=>by simp only [Ah]at h;obtain⟨arr,rfl,_⟩:=h;rfl
 | .bmv ..,v,h=>by simp only [Ah]at h;obtain⟨arr,rfl,_⟩:=h;rfl
 | .held,v,h=>by simp only [Ah]at h;obtain⟨t,x,rfl⟩:=h;rfl
 | .any,v,h=>by grind [Ah]
 | .afN ..,v,h=>by simp only [Ah]at h;obtain⟨b,_,rfl⟩:=h;rfl
 | .mp ..,v,h=>by simp only [Ah]at h
 | .isl ..,v,h=>by grind [Ah]
 | .afY ..,v,h=>by simp only [Ah]at h;subst h;rfl
end
theorem Z_ {w w':World} {b:Nat} (h:w'.heap[b]? =w.heap[b]?) (o:Nat):w'.cell? ⟨b,o,none⟩=w.cell? ⟨b,o,none⟩:=
 (by grind [World.cell?_of_block])
mutual
theorem Ah.mono {w w':World} {G G':AG} (hk:Cl G G' w w'): ∀ (c:C) (v:Value),KO (fun id=>c.s_ id=true) G G'->Ah w G c v->Ah w' G' c v
 | .int ..,_,_,h=>by grind [Ah]
 | .bool ..,_,_,h=>by grind [Ah]
 | .str ..,_,_,h=>by grind [Ah]
 | .sl len cs,v,ha,h=>by
   simp only [Ah]at h ⊢;obtain⟨hp,a,cap,h1,h2,h3,h4,h5⟩:=h;refine⟨hp,a,cap,h1,h2,h3,h4,?_⟩;rcases h5 with h5 | ⟨b,off,e,hm,hb,hr⟩
   ·grind
   ·exact .inr ⟨b,off,e,fun hm'=>hm (hk.wr b hb hm'),lt_of_lt_of_le hb hk.size,An.mono hk cs b off (fun id hid=>absurd (show BS id cs=true from hid) (by rw [AQ id cs hp];simp)) (fun o=>Z_ (hk.block b hb hm) o) hr⟩
 | .h_ id,v,ha,h=>by simp only [Ah]at h ⊢;rw [(ha id (by simp [C.s_])).2];exact h
 | .ptr id off,v,ha,h=>by simp only [Ah]at h ⊢;rw [(ha id (by simp [C.s_])).1];exact h
 | .bsl id off len,v,ha,h=>by simp only [Ah]at h ⊢;rw [(ha id (by simp [C.s_])).1];exact h
 | .rsl id N off len,v,ha,h=>by simp only [Ah]at h ⊢;rw [(ha id (by simp [C.s_])).2];exact h
 | .bld id T,v,ha,h=>by
   simp only [Ah]at h ⊢;obtain⟨b,h1,⟨cur,fz,h2⟩,h3⟩:=h;have h4:G'.p_ id=some b:=by rw [(ha id (by simp [C.s_])).1];exact h1
   exact⟨b,h4,hk.ty id b h1 h4 cur T fz h2,h3⟩
 | .abO cs off,v,ha,h=>by simp only [Ah]at h ⊢;obtain⟨hp,b,o,e,hm,hb,hr⟩:=h;exact⟨hp,b,o,e,fun hm'=>hm (hk.wr b hb hm'),lt_of_lt_of_le hb hk.size,An.mono hk cs b o (fun id hid=>absurd (show BS id cs=true from hid) (by rw [AQ id cs hp];simp)) (fun o=>Z_ (hk.block b hb hm) o) hr⟩
 | .acg,_,_,h=>by grind [Ah]
 | .aas,_,_,h=>by grind [Ah]
 | .L_,_,_,h=>by grind [Ah]
 | .fn _,_,_,h=>by grind [Ah]
 | .clo f cs,v,ha,h=>by simp only [Ah]at h ⊢;obtain⟨arr,e,hr⟩:=h;exact⟨arr,e,Al.mono hk cs _ (fun id hid=>ha id (by simpa only [C.s_] using hid)) hr⟩
 | .bmv f cs,v,ha,h=>by simp only [Ah]at h ⊢;obtain⟨arr,e,hr⟩:=h;exact⟨arr,e,Al.mono hk cs _ (fun id hid=>ha id (by simpa only [C.s_] using hid)) hr⟩
 | .held,_,_,h=>by grind [Ah]
 | .any,_,_,h=>by grind [Ah]
 | .afN id,v,ha,h=>by simp only [Ah]at h ⊢;rw [(ha id (by simp [C.s_])).1];exact h
 | .mp ..,_,_,h=>by simp only [Ah]at h
 | .isl ..,_,_,h=>by grind [Ah]
 | .afY ..,_,_,h=>by grind [Ah]
theorem An.mono {w w':World} {G G':AG} (hk:Cl G G' w w'): ∀ (cs:List C) (b off:Nat),KO (fun id=>BS id cs=true) G G'->(∀ o,w'.cell? ⟨b,o,none⟩=w.cell? ⟨b,o,none⟩)->An w G cs b off->An w' G' cs b off
 | [],_,_,_,_,h=>by simp only [An]
 | c::cs,b,off,ha,hc,h=>by
   simp only [An]at h ⊢;obtain⟨⟨v,hv,hr⟩,ahY⟩:=h;exact⟨⟨v,by grind,Ah.mono hk c v (fun id hid=>ha id (by simp_all [BS])) hr⟩,
    An.mono hk cs b (off+1) (fun id hid=>ha id (by simp_all [BS])) hc ahY⟩
theorem Al.mono {w w':World} {G G':AG} (hk:Cl G G' w w'): ∀ (cs:List C) (vs:List Value),KO (fun id=>BS id cs=true) G G'->Al w G cs vs->Al w' G' cs vs
 | [],[],_,_=>by simp only [Al]
 | [],_::_,_,h=>by simp only [Al]at h
 | _::_,[],_,h=>by simp only [Al]at h
 | c::cs,v::vs,ha,h=>by
   simp only [Al]at h ⊢;exact⟨Ah.mono hk c v (fun id hid=>ha id (by simp_all [BS])) h.1,
    Al.mono hk cs vs (fun id hid=>ha id (by simp_all [BS])) h.2⟩
end
mutual
def V.s_ (id:Ak):V->Bool
 | .c x=>x.s_ id
 | .agg cs=>BS id cs
 | .tup vs=>Ls id vs
 | .g b v=>v.s_ id&&b
 | .undef =>false
def Ls (id:Ak):List V->Bool
 | []=>false
 | v::vs=>v.s_ id||Ls id vs
end
mutual
theorem Ae.mono {w w':World} {G G':AG} (hk:Cl G G' w w'): ∀ (x:V) (v:Value),KO (fun id=>x.s_ id=true) G G'->Ae w G x v->Ae w' G' x v
 | .c x,v,ha,h=>by grind [Ae,Ah.mono,V.s_]
 | .agg cs,v,ha,h=>by grind [Ae,Al.mono,V.s_]
 | .tup vs,v,ha,h=>by simp only [Ae]at h ⊢;obtain⟨arr,e,hr⟩:=h;exact⟨arr,e,Aq.mono hk vs _ (by simpa only [V.s_] using ha) hr⟩
 | .g b x,v,ha,h=>by
   simp only [Ae]at h ⊢;split
   ·rename_i hb;rw [if_pos hb]at h;exact Ae.mono hk x v (fun id hid=>ha id (by simp only [V.s_,hb,hid,Bool.and_self])) h
   grind
 | .undef,_,_,_=>by simp only [Ae]
theorem Aq.mono {w w':World} {G G':AG} (hk:Cl G G' w w'): ∀ (xs:List V) (vs:List Value),KO (fun id=>Ls id xs=true) G G'->Aq w G xs vs->Aq w' G' xs vs
 | [],_,_,h=>by grind [Aq]
 | x::xs,vs,ha,h=>by
   simp only [Aq]at h ⊢;obtain⟨v,r,e,h1,h2⟩:=h;exact⟨v,r,e,Ae.mono hk x v (fun id hid=>ha id (by simp_all [Ls])) h1,
    Aq.mono hk xs r (fun id hid=>ha id (by simp_all [Ls])) h2⟩
end
theorem Al.length {w:World} {G:AG}: ∀ {cs:List C} {vs:List Value},Al w G cs vs->cs.length=vs.length
 | [],[],_=>rfl
 | [],_::_,h=>by simp only [Al]at h
 | _::_,[],h=>by simp only [Al]at h
 | c::cs,v::vs,h=>by simp only [Al]at h;simp [Al.length h.2]
theorem Al.get {w:World} {G:AG}: ∀ {cs:List C} {vs:List Value},Al w G cs vs-> ∀ (i:Nat) (c:C),cs[i]? =some c-> ∃ v,vs[i]? =some v/\Ah w G c v
 | [],[],_,i,c,hc=>by simp at hc
 | [],_::_,h,_,_,_=>by grind
 | _::_,[],h,_,_,_=>by simp only [Al]at h
 | c::cs,v::vs,h,i,d,hd=>by
   simp only [Al]at h;cases i with
   | zero=>simp at hd;subst hd;exact⟨v,by simp,h.1⟩
   | succ i=>simp at hd;obtain⟨v',h1,h2⟩:=Al.get h.2 i d hd;exact⟨v',by simpa using h1,h2⟩
theorem Al.one {w:World} {G:AG}: ∀ {cs:List C} {vs:List Value},Al w G cs vs-> ∀ v∈vs,v.oneCell'=true
 | [],[],_,v,hv=>by cases hv
 | [],_::_,h,_,_=>by simp only [Al]at h
 | _::_,[],h,_,_=>by grind
 | c::cs,v::vs,h,u,hu=>by
   simp only [Al]at h;rcases List.mem_cons.1 hu with rfl | hu
   ·exact Ah.one h.1
   ·exact Al.one h.2 u hu
theorem Al.drop {w:World} {G:AG}: ∀ {cs:List C} {vs:List Value},Al w G cs vs-> ∀ n,Al w G (cs.drop n) (vs.drop n)
 | cs,vs,h,0=>by grind
 | [],[],h,n+1=>by simp [Al]
 | [],_::_,h,_+1=>by simp only [Al]at h
 | _::_,[],h,_+1=>by simp only [Al]at h
 | c::cs,v::vs,h,n+1=>by simp only [Al]at h;simpa using Al.drop h.2 n
theorem Al.take {w:World} {G:AG}: ∀ {cs:List C} {vs:List Value},Al w G cs vs-> ∀ n,Al w G (cs.take n) (vs.take n)
 | cs,vs,h,0=>by simp [Al]
 | [],[],h,n+1=>by simp [Al]
 | [],_::_,h,_+1=>by simp only [Al]at h
 | _::_,[],h,_+1=>by simp only [Al]at h
 | c::cs,v::vs,h,n+1=>by simp only [Al]at h;simp only [List.take_succ_cons,Al];exact⟨h.1,Al.take h.2 n⟩
theorem Al.append {w:World} {G:AG}: ∀ {cs:List C} {vs:List Value} {ds:List C} {us:List Value},Al w G cs vs->Al w G ds us->Al w G (cs++ds) (vs++us)
 | [],[],_,_,_,h'=>by grind
 | [],_::_,_,_,h,_=>by simp only [Al]at h
 | _::_,[],_,_,h,_=>by simp only [Al]at h
 | c::cs,v::vs,ds,us,h,h'=>by simp only [Al]at h;simp only [cons_append,Al];exact⟨h.1,Al.append h.2 h'⟩
theorem An.list {w:World} {G:AG}: ∀ {cs:List C} {b off:Nat},An w G cs b off-> ∃ vs,Al w G cs vs/\w.rangeAt b off vs
 | [],b,off,_=>⟨[],by simp only [Al],fun j v h=>by simp at h⟩
 | c::cs,b,off,h=>by
   simp only [An]at h;obtain⟨⟨v,hv,hr⟩,ahY⟩:=h;obtain⟨vs,h1,h2⟩:=An.list ahY;refine⟨v::vs,by simp only [Al];exact⟨hr,h1⟩,fun j u hu=>?_⟩;cases j with
   | zero=>simp at hu;subst hu;simpa using hv
   | succ j=>simp at hu;have:=h2 j u hu;rw [show off+(j+1)=off+1+j by omega];exact this
theorem An.aaA {w:World} {G:AG}: ∀ {cs:List C} {vs:List Value} {b off:Nat},Al w G cs vs->w.rangeAt b off vs->An w G cs b off
 | [],[],b,off,_,_=>by simp only [An]
 | [],_::_,_,_,h,_=>by simp only [Al]at h
 | _::_,[],_,_,h,_=>by simp only [Al]at h
 | c::cs,v::vs,b,off,h,hr=>by simp only [Al]at h;simp only [An];refine⟨⟨v,by simpa using hr 0 v (by simp),h.1⟩,An.aaA h.2 (fun j u hu=>?_)⟩;have:=hr (j+1) u (by simpa using hu);rw [show off+1+j=off+(j+1) by omega];exact this
theorem An.drop {w:World} {G:AG} {cs:List C} {b off:Nat} (h:An w G cs b off) (n:Nat):An w G (cs.drop n) b (off+n):=by obtain⟨vs,h1,h2⟩:=h.list;refine An.aaA (h1.drop n) (fun j v hv=>?_);rw [List.getElem?_drop]at hv;have:=h2 _ v hv;grind
theorem An.take {w:World} {G:AG} {cs:List C} {b off:Nat} (h:An w G cs b off) (n:Nat):An w G (cs.take n) b off:=by
 obtain⟨vs,h1,h2⟩:=h.list;refine An.aaA (h1.take n) (fun j v hv=>?_);rw [List.getElem?_take]at hv;split at hv
 ·exact h2 j v hv
 ·cases hv
end Go.PL
namespace Go.PL
open Go Go.RowKit
structure Ax where
 id:Ak
 row:Option (TypeId×Nat×Nat)
 cs:List C
 pu:Bool:=false
structure St where
 tm:List V
 so:List Ax
 gh:List V:=[]
 pre:Ak:=[]
structure Fr where
 w0:World
 av:Nat->Prop
 old:Nat->Prop
 I:World->Prop
 gv:List Value:=[]
def Afn (kv:List (Int×Int)) (es:List MapEntry):Prop:=
 es=kv.zipIdx.map fun p=>⟨.int .i64 p.1.1, .int .i64 p.1.2,p.2⟩
def vC (w:World) (G:AG) (cs:List C) (b:Nat):Prop:=
 (∃ kv es,cs=[.mp kv]/\w.heap[b]? =some (.map es kv.length)/\Afn kv es.toList/\(kv.map (·.1)).Nodup)\/
 (∃ T cur,w.heap[b]? =some (.cells cur T (0,0))/\cur.size=cs.length/\An w G cs b 0)
def ic:List C->Bool
 | [.mp _]=>true
 | _=>false
theorem vC.cells {w:World} {G:AG} {cs:List C} {b:Nat} (h:vC w G cs b) (hn:ic cs=false): ∃ T cur,w.heap[b]? =some (.cells cur T (0,0))/\cur.size=cs.length/\An w G cs b 0:=by
 rcases h with ⟨kv,es,rfl,_⟩ | h
 ·cases hn
 ·exact h
def Be (w:World) (G:AG) (e:Ax):Prop:=
 match e.row with
 | none=> ∃ b,G.p_ e.id=some b/\vC w G e.cs b
 | some (E,n,len)=>e.cs.length=len*n/\ ∃ v,G.own e.id=some v/\
  ((∃ p,v= .slice p 0 0/\len=0/\G.p_ e.id=none)\/
   ∃ b cap cur,v= .slice (some ⟨b,0,none⟩) len cap/\G.p_ e.id=some b/\w.heap[b]? =some (.cells cur E (0,0))/\len<=cap/\cap<=maxLen/\cur.size=cap*n/\An w G e.cs b 0)
def Dh:Ak->Bool
 | []=>false
 | d::_=>Nat.beq d 1000007
def Fj:Ak->Bool
 | []=>false
 | d::_=>Nat.beq d 1000003
def B9 (k:Nat) (id:Ak):Ak:=1000007::k::id
theorem R3 {k j:Nat} {a b:Ak} (h:B9 k a=B9 j b):k=j/\a=b:=by grind [B9]
theorem kJ (k:Nat) (id:Ak):Dh (B9 k id)=true:=rfl
def Fz (w:World) (G:AG) (e:Ax):Prop:=
 ∀ k E n len cs,e.cs[k]? =some (.isl E n len cs)->Ap cs=true/\Be w G ⟨B9 k e.id,some (E,n,len),cs,true⟩/\
   ∃ b v,G.p_ e.id=some b/\w.cell? ⟨b,k,none⟩=some v/\G.own (B9 k e.id)=some v
def BA (w:World) (G:AG) (e:Ax):Prop:=Dh e.id=false/\(Fj e.id=true->e.pu=true/\e.row.isSome=true/\Fz w G e)
structure R (F:Fr) (st:St) (a:Act) (w:World) (G:AG):Prop where
 dfr:a.defers=[]
 size:a.tmps.size=st.tm.length
 z_: ∀ i,Ae w G (st.tm.getD i .undef) (a.tmps.getD i Go.undef)
 I_:Aq w G st.gh F.gv
 store: ∀ e∈st.so,Be w G e
 deep: ∀ e∈st.so,BA w G e
 B_: ∀ e∈st.so,e.pu=true->Ap e.cs=true
 nodup:(st.so.map (·.id)).Nodup
 inj: ∀ i j b,G.p_ i=some b->G.p_ j=some b->i=j
 lt: ∀ i b,G.p_ i=some b->b<w.heap.size
 new: ∀ i b,G.p_ i=some b->F.w0.heap.size<=b\/F.old b
 wr: ∀ b,G.wr b↔F.av b\/ ∃ i,G.p_ i=some b
 aaS: ∀ b,F.av b->b<F.w0.heap.size
 inv: ∀ w',F.w0.heap.size<=w'.heap.size->(∀ b,b<F.w0.heap.size-> ¬F.old b->w'.heap[b]? =F.w0.heap[b]?)->F.I w'
 aaj: ∀ b,F.old b-> ¬F.av b
 os:w.os=F.w0.os
 tape:w.tape=F.w0.tape
 output:w.output=F.w0.output
 x_:F.w0.heap.size<=w.heap.size
 ext: ∀ b,b<F.w0.heap.size-> ¬F.old b->w.heap[b]? =F.w0.heap[b]?
def St.get (st:St) (t:Nat):V:=st.tm.getD t .undef
def St.put (st:St) (d:Option Nat) (v:V):St:=
 match d with
 | some d=>{st with tm:=st.tm.set d v}
 | none=>st
def Fc:Value->Option C
 | .int k n=>some (.int k n)
 | .bool b=>some (.bool b)
 | .string s=>some (.str s.data.toList)
 | .pointer none=>some .acg
 | .nilIface =>some .aas
 | .slice none 0 0=>some (.sl 0 [])
 | .map none=>some .any
 | _=>none
def D3:List Value->Option (List C)
 | []=>some []
 | v::vs=>match Fc v,D3 vs with
   | some c,some cs=>some (c::cs)
   | _,_=>none
def MH:Value->V
 | .agg cs=>match D3 cs.toList with
   | some l=> .agg l
   | none=> .undef
 | v=>match Fc v with
   | some c=> .c c
   | none=> .undef
def St.ev (st:St):Operand->V
 | .tmp t=>st.get t
 | .const v=>MH v
 | .func f=> .c (.fn f)
 | .global _=> .undef
def St.arg (st:St) (g:Bool) (x:Operand):Prop×V:=
 match st.ev x with
 | .g c v=>(g=true->c=true,v)
 | v=>(True,v)
theorem QO {w:World} {G:AG}: ∀ {v:Value} {c:C},Fc v=some c->Ah w G c v:=by
 intro v c h;unfold Fc at h;split at h<;>first | (cases h;done) | (injection h with h;subst h;simp [Ah];try rfl)
 ·exact⟨rfl,none,0,⟨rfl,rfl⟩,by grind⟩
theorem G9 {w:World} {G:AG}: ∀ {vs:List Value} {cs:List C},D3 vs=some cs->Al w G cs vs
 | [],cs,h=>by grind [D3,Al]
 | v::vs,cs,h=>by
   unfold D3 at h;split at h
   ·rename_i c cs' h1 h2;injection h with h;subst h;simp only [Al];exact⟨QO h1,G9 h2⟩
   ·cases h
theorem ig {w:World} {G:AG} (v:Value):Ae w G (MH v) v:=by
 unfold MH;split
 ·split
  ·rename_i h;simp only [Ae];exact⟨_,rfl,G9 h⟩
  ·simp only [Ae]
 grind [Ae,QO]
theorem R.ev {F:Fr} {st:St} {a:Act} {w:World} {G:AG} (h:R F st a w G) (x:Operand):Ae w G (st.ev x) (a.eval x):=by
 cases x with
 | tmp t=>exact h.z_ t
 | const v=>exact ig v
 | func f=>simp [St.ev,Act.eval,Ae,Ah]
 | global g=>simp [St.ev,Ae]
theorem R.arg {F:Fr} {st:St} {a:Act} {w:World} {G:AG} (h:R F st a w G) {g:Bool} (hg:g=true) {x:Operand} (hs:(st.arg g x).1):Ae w G (st.arg g x).2 (a.eval x):=by
 have:=h.ev x;unfold St.arg at *;split at hs
 all_goals simp_all [Ae]
def KP (P:Program) (t:TypeId):Option (Bool×Nat):=
 match P.underlying t,P.info? t with
 | some d,some i=>some (d.isRow,i.size)
 | _,_=>none
def DG (P:Program) (t:TypeId):Option (TypeId×Nat):=
 match P.underlying t with
 | some (.slice e)=>match P.info? e with
   | some i=>some (e,i.size)
   | none=>none
 | _=>none
def Gq (P:Program) (t:TypeId):Option (Nat×TypeId×Nat):=
 match P.underlying t with
 | some (.array n e)=>match P.info? e with
   | some i=>some (n,e,i.size)
   | none=>none
 | _=>none
def vD (P:Program) (t:TypeId) (f:Nat):Option (Nat×Bool×Nat):=
 match P.underlying t with
 | some (.struct fs)=>match fs[f]? with
   | some x=>match KP P x.type with
     | some (ag,n)=>some (x.offset,ag,n)
     | none=>none
   | none=>none
 | _=>none
def Eb (P:Program) (t:TypeId):Bool:=
 match P.underlying t with
 | some .string =>true
 | _=>false
theorem C9 {P:Program} {t:TypeId} {ag:Bool} {n:Nat} (h:KP P t=some (ag,n)): ∃ d i,P.underlying t=some d/\d.isRow=ag/\P.info? t=some i/\i.size=n:=by grind [KP]
theorem Ec {P:Program} {t e:TypeId} {n:Nat} (h:DG P t=some (e,n)):P.underlying t=some (.slice e)/\ ∃ i,P.info? e=some i/\i.size=n:=by unfold DG at h;grind
theorem MI {P:Program} {t e:TypeId} {k n:Nat} (h:Gq P t=some (k,e,n)):P.underlying t=some (.array k e)/\ ∃ i,P.info? e=some i/\i.size=n:=by unfold Gq at h;grind
structure CX (w w':World):Prop where
 size:w.heap.size<=w'.heap.size
 block: ∀ b,b<w.heap.size->w'.heap[b]? =w.heap[b]?
theorem CX.refl (w:World):CX w w:=⟨le_refl _,fun _ _=>rfl⟩
theorem CX.trans {a b c:World} (h:CX a b) (k:CX b c):CX a c:=
 ⟨le_trans h.size k.size,fun x hx=>(k.block x (lt_of_lt_of_le hx h.size)).trans (h.block x hx)⟩
theorem CX.cell {w w':World} (h:CX w w') {p:Addr} {v:Value} (hv:w.cell? p=some v):w'.cell? p=some v:=by have hb:p.block<w.heap.size:=World.block_lt_of_cell? w p hv;rw [World.cell?_of_block (h.block p.block hb)];exact hv
theorem CX.range {w w':World} (h:CX w w') {b o:Nat} {vs:List Value} (hv:w.rangeAt b o vs):w'.rangeAt b o vs:=
 fun j v hj=>h.cell (hv j v hj)
def Ax.isM (e:Ax):Bool:=match e.row with
 | none=>ic e.cs
 | some _=>false
def St.look (st:St) (id:Ak):Option Ax:=st.so.find? (fun e=>e.id==id&& !(e.isM||Fj e.id))
def St.acj (st:St) (id:Ak):Option Ax:=st.so.find? (fun e=>e.id==id&& !e.isM)
theorem Uz {st:St} {id:Ak} {e:Ax} (h:st.acj id=some e):e∈st.so/\e.id=id:=
 ⟨List.mem_of_find?_eq_some h,by have:=find?_some h;grind⟩
theorem vE {st:St} {id:Ak} {e:Ax} (h:st.acj id=some e) (hr:e.row=none):ic e.cs=false:=by have:=find?_some h;simp_all [Ax.isM]
theorem Bh {st:St} {id:Ak} {e:Ax} (h:st.look id=some e):e∈st.so/\e.id=id:=
 ⟨List.mem_of_find?_eq_some h,by have:=find?_some h;grind⟩
theorem Yu {st:St} {id:Ak} {e:Ax} (h:st.look id=some e) (hr:e.row=none):ic e.cs=false:=by have:=find?_some h;simp_all [Ax.isM]
theorem FA {st:St} {id:Ak} {e:Ax} (h:st.look id=some e):Fj id=false:=by have h1:=(Bh h).2;have:=find?_some h;grind
theorem Be.row {w:World} {G:AG} {e:Ax} (h:Be w G e) (hnm:e.row=none->ic e.cs=false) {b:Nat} (hb:G.p_ e.id=some b):
 ∃ cur T,w.heap[b]? =some (.cells cur T (0,0))/\e.cs.length<=cur.size/\An w G e.cs b 0:=by
 unfold Be at h;split at h
 ·rename_i hrn;obtain⟨b',h1,hbx⟩:=h;obtain⟨T,cur,h2,h3,h4⟩:=hbx.cells (hnm hrn);grind
 ·obtain⟨hl,v,h1,h2 | ⟨b',cap,cur,e1,e2,e3,e4,e5,e6,e7⟩⟩:=h
  all_goals simp_all [Nat.mul_le_mul_right]
def toV (ag:Bool) (off n:Nat) (cs:List C):V:=if ag then .agg ((cs.drop off).take n)else .c (cs.getD off .any)
def DM (P:Program) (t:TypeId) (st:St):V->Prop×V
 | .c (.ptr id off)=>match KP P t,st.acj id with
   | some (ag,n),some e=>(off+n<=e.cs.length/\(ag=true\/0<n),toV ag off n e.cs)
   | _,_=>(False, .undef)
 | .c (.abO cs off)=>match KP P t with
   | some (ag,n)=>(off+n<=cs.length/\(ag=true\/0<n),toV ag off n cs)
   | _=>(False, .undef)
 | _=>(False, .undef)
theorem DT {P:Program} {w:World} {b o:Nat} {ty:TypeId} {v:Value} {d:TypeDesc} (hu:P.underlying ty=some d) (hd:d.isRow=false) (hc:w.cell? ⟨b,o,none⟩=some v):
 (Instr.loadAt ty (.pointer (some ⟨b,o,none⟩))).run P w= .ok v w:=by
 have axU:(isAgg ty).run P w= .ok false w:=by unfold isAgg;rw [Sem.run_bind,run_underlying hu w];cases d<;>simp_all
 simp_all [Instr.loadAt,Instr.sureAddr,loadVar]
theorem YT {P:Program} {w:World} {G:AG} {cs:List C} {b o off n:Nat} {ty:TypeId} {ag:Bool} (hr:An w G cs b o) (ht:KP P ty=some (ag,n)) (hn:off+n<=cs.length) (h0:ag=true\/0<n):
 ∃ v,Ae w G (toV ag off n cs) v/\ ∀ w',CX w w'->(Instr.loadAt ty (.pointer (some ⟨b,o+off,none⟩))).run P w'= .ok v w':=by
 obtain⟨d,i,hu,hd,hi,hsz⟩:=C9 ht;obtain⟨vs,h1,h2⟩:=hr.list;unfold toV;cases hag:ag with
 | true=>
   refine⟨.agg ((vs.drop off).take n).toArray,?_,fun w' hw'=>?_⟩
   ·exact⟨_,rfl,by simpa using (h1.drop off).take n⟩
   ·refine run_loadAt_mid w' b (o+off) ty ((vs.drop off).take n) d ?_ hu (by rw [hd,hag]) ?_
    ·intro j v hv;rw [List.getElem?_take]at hv;split at hv
     ·rw [List.getElem?_drop]at hv;have:=(hw'.range h2) _ v hv;grind
     ·cases hv
    ·simp [hi,hsz, <-h1.length];omega
 | false=>
   have hn0:0<n:=by grind
   have hlt:off<cs.length:=by omega
   obtain⟨v,hv,hr'⟩:=h1.get off cs[off] (by simp [hlt]);refine⟨v,?_,fun w' hw'=>?_⟩
   ·grind [Ae]
   ·exact DT hu (by rw [hd,hag]) (by simpa using (hw'.range h2) off v hv)
theorem Ot {P:Program} {F:Fr} {st:St} {a:Act} {w:World} {G:AG} (h:R F st a w G) {t:TypeId} {x:V} {u:Value} (hx:Ae w G x u) (hs:(DM P t st x).1):
 ∃ v,Ae w G (DM P t st x).2 v/\ ∀ w',CX w w'->(Instr.loadAt t u).run P w'= .ok v w':=by
 unfold DM at *;split at hs
 ·rename_i id off;split at hs
  ·rename_i ag n e ht he;simp only [Ae,Ah]at hx;obtain⟨b,hb,rfl⟩:=hx;obtain⟨hm,hid⟩:=Uz he;obtain⟨cur,T,_,_,IN⟩:=(h.store e hm).row (vE he) (by rw [hid];exact hb);grind [YT]
  grind
 ·rename_i cs off;split at hs
  ·rename_i ag n ht;simp only [Ae,Ah]at hx;obtain⟨_,b,o,rfl,_,_,IN⟩:=hx;grind [YT]
  grind
 grind
end Go.PL
namespace Go.PL
open Go Go.RowKit
def YU (P:Program) (t:TypeId):Bool:=
 match P.underlying t with
 | some .bool =>true
 | _=>false
def Fk (k:IntKind) (a b:Int):Int:=k.wrap (BitVec.ofInt k.bits a&&& BitVec.ofInt k.bits b).toNat
def bOr (k:IntKind) (a b:Int):Int:=k.wrap (BitVec.ofInt k.bits a||| BitVec.ofInt k.bits b).toNat
def R4 (k:IntKind) (a b:Int):Int:=k.wrap (BitVec.ofInt k.bits a ^^^ BitVec.ofInt k.bits b).toNat
def ii (k:IntKind) (a b:Int):Int:=k.wrap (BitVec.ofInt k.bits a&&& ~~~ BitVec.ofInt k.bits b).toNat
def KQ (op:BinOp) (k:IntKind) (a b:Int):Prop×C:=
 match op with
 | .add =>(True, .int k (k.wrap (a+b)))
 | .sub =>(True, .int k (k.wrap (a - b)))
 | .mul =>(True, .int k (k.wrap (a*b)))
 | .quo =>(b ≠ 0, .int k (k.wrap (a.tdiv b)))
 | .rem =>(b ≠ 0, .int k (a.tmod b))
 | .and =>(True, .int k (Fk k a b))
 | .or =>(True, .int k (bOr k a b))
 | .xor =>(True, .int k (R4 k a b))
 | .andNot =>(True, .int k (ii k a b))
 | .shl =>(0<=b, .int k (k.wrap (a*2 ^ (min b.toNat k.bits))))
 | .shr =>(0<=b, .int k (a.fdiv (2 ^ (min b.toNat k.bits))))
 | .eql =>(True, .bool (a==b))
 | .neq =>(True, .bool (a != b))
 | .lss =>(True, .bool (decide (a<b)))
 | .leq =>(True, .bool (decide (a<=b)))
 | .gtr =>(True, .bool (decide (b<a)))
 | .geq =>(True, .bool (decide (b<=a)))
def LM (op:BinOp) (a b:List UInt8):Prop×C:=
 match op with
 | .add =>(a.length+b.length<=maxLen, .str (a++b))
 | .eql =>(True, .bool (a==b))
 | .neq =>(True, .bool (a != b))
 | .lss =>(True, .bool (Op.bytesLess a b))
 | .leq =>(True, .bool (Op.bytesLess a b||a==b))
 | .gtr =>(True, .bool (!(Op.bytesLess a b||a==b)))
 | .geq =>(True, .bool (!Op.bytesLess a b))
 | _=>(False, .any)
def LN (op:BinOp) (k k':IntKind):Prop:=
 match op with
 | .shl | .shr =>True
 | _=>k=k'
def KR (P:Program) (t:TypeId):Bool:=
 match P.underlying t with
 | some (.interface _)=>true
 | _=>false
def LO (P:Program) (t:TypeId):Bool:=
 match P.underlying t with
 | some (.pointer _)=>true
 | _=>false
def Ou (op:BinOp) (b:Bool) (s:Prop):Prop×V:=
 match op with
 | .eql =>(s, .c (.bool b))
 | .neq =>(s, .c (.bool !b))
 | _=>(False, .undef)
def BJ:Operand->Bool
 | .const _=>true
 | _=>false
def Xt (P:Program) (op:BinOp) (t:TypeId) (k:Bool):V->V->Prop×V
 | .c (.int k a), .c (.int k' b)=>(LN op k k'/\(KQ op k a b).1, .c (KQ op k a b).2)
 | .c (.str a), .c (.str b)=>((LM op a b).1, .c (LM op a b).2)
 | .c (.bool a), .c (.bool b)=>match op with
   | .eql =>(YU P t=true, .c (.bool (a==b)))
   | .neq =>(YU P t=true, .c (.bool (a != b)))
   | _=>(False, .undef)
 | .c .aas, .c .aas =>Ou op true (k=true/\KR P t=true)
 | .c .held, .c .aas =>Ou op false (KR P t=true)
 | .c (.ptr _ _), .c .acg =>Ou op false (LO P t=true)
 | .c (.abO _ _), .c .acg =>Ou op false (LO P t=true)
 | .c .acg, .c .acg =>Ou op true (LO P t=true)
 | _,_=>(False, .undef)
theorem R5 {P:Program} {t:TypeId} (h:KR P t=true): ∃ ms,P.underlying t=some (.interface ms):=by grind [KR]
theorem QP {P:Program} {t:TypeId} (h:LO P t=true): ∃ e,P.underlying t=some (.pointer e):=by grind [LO]
theorem Wd {P:Program} {t:TypeId} (h:YU P t=true):P.underlying t=some .bool :=by grind [YU]
theorem JF {P:Program} {t:TypeId} (h:Eb P t=true):P.underlying t=some .string :=by grind [Eb]
theorem oH (a:List UInt8):(⟨a.toArray⟩:ByteArray).size =a.length:=by simp [ByteArray.size]
def I3:C->Value
 | .int k n=> .int k n
 | .bool b=> .bool b
 | .str s=> .string ⟨s.toArray⟩
 | .acg => .pointer none
 | .aas => .nilIface
 | .fn f=> .func (.func f) #[] #[]
 | _=>Go.undef
def C.flat:C->Bool
 | .int .. | .bool _ | .str _ | .acg | .aas | .fn _=>true
 | _=>false
theorem AS {w:World} {G:AG} {c:C} (hc:c.flat=true) {v:Value}:Ah w G c v↔v=I3 c:=by cases c<;>simp_all [C.flat,Ah,I3]
theorem eN {P:Program} {op:BinOp} {t:TypeId} {k k':IntKind} {x y:Int} {ox oy:Operand} (h1:LN op k k') (h2:(KQ op k x y).1) (w:World):
 (do eqGuard op t ox oy (.int k x) (.int k' y);binOp op t (.int k x) (.int k' y)).run P w= .ok (I3 (KQ op k x y).2) w/\(KQ op k x y).2.flat =true:=by
 refine⟨?_,by cases op<;>rfl⟩;cases op<;>simp only [LN,KQ]at h1 h2<;>(try subst h1)<;>simp only [KQ,I3]<;>
  first
   | (simp [eqGuard,binOp,Op.intArith,Op.intDiv,Op.intBits,Op.intCmp,h2,Fk,bOr,R4,ii];done)
   | (have h3: ¬y<0:=by omega
      simp [eqGuard,binOp,Op.shift,h3])
theorem eO {P:Program} {op:BinOp} {t:TypeId} {x y:List UInt8} {ox oy:Operand} (h2:(LM op x y).1) (w:World):
 (do eqGuard op t ox oy (.string ⟨x.toArray⟩) (.string ⟨y.toArray⟩);binOp op t (.string ⟨x.toArray⟩) (.string ⟨y.toArray⟩)).run P w= .ok (I3 (LM op x y).2) w/\(LM op x y).2.flat =true:=by
 cases op<;>simp only [LM]at h2<;>refine⟨?_,rfl⟩<;>simp only [LM,I3]
 case add=>
  have h3: ¬((x.length+y.length:Nat):Int)>IntKind.i64.max:=by
   have:IntKind.i64.max=9223372036854775807:=by decide
   grind [maxLen]
  simp only [eqGuard,binOp,Op.stringOp,oH];rw [if_neg h3];have e:(⟨x.toArray⟩++⟨y.toArray⟩:ByteArray)=⟨(x++y).toArray⟩:=by apply ByteArray.ext;simp
  simp [e]
 all_goals simp_all [eqGuard,binOp,Op.stringOp,bne]
theorem H8 {P:Program} {op:BinOp} {t:TypeId} {u v:Value} {b:Bool} {s:Prop} {w:World} {G:AG} {ox oy:Operand} (hs:(Ou op b s).1) (aqK:(∀ k a,u ≠ .int k a)/\(∀ k a,u ≠ .float k a)/\(∀ k a c,u ≠ .complex k a c)/\(∀ a,u ≠ .string a))
 (hg:s-> ∀ w',(eqGuard op t ox oy u v).run P w'= .ok () w') (he:s-> ∀ w',(Op.equal t u v).run P w'= .ok b w'):
 ∃ r,Ae w G (Ou op b s).2 r/\ ∀ w',(do eqGuard op t ox oy u v;binOp op t u v).run P w'= .ok r w':=by
 unfold Ou at *;obtain⟨h1,h2,h3,h4⟩:=aqK;split at hs
 ·refine⟨.bool b,(AS rfl).2 rfl,fun w'=>?_⟩;simp_all [binOp]
 ·refine⟨.bool !b,(AS rfl).2 rfl,fun w'=>?_⟩;simp_all [binOp]
 grind
theorem tu {P:Program} (d:Nat) {t u:TypeId} {x:Value} {ms:Array (String×TypeId)} (h:P.underlying t=some (.interface ms)) (w:World):(Op.equalIn (d+1) t (.iface u x) .nilIface).run P w= .ok false w:=by simp [Op.equalIn,run_underlying h]
theorem zn {P:Program} (d:Nat) {t:TypeId} {ms:Array (String×TypeId)} (h:P.underlying t=some (.interface ms)) (w:World):(Op.equalIn (d+1) t .nilIface .nilIface).run P w= .ok true w:=by simp [Op.equalIn,run_underlying h]
theorem zo {P:Program} (d:Nat) {t e:TypeId} {a:Addr} (h:P.underlying t=some (.pointer e)) (w:World):(Op.equalIn (d+1) t (.pointer (some a)) (.pointer none)).run P w= .ok false w:=by simp [Op.equalIn,run_underlying h]
theorem zq {P:Program} (d:Nat) {t e:TypeId} (h:P.underlying t=some (.pointer e)) (w:World):(Op.equalIn (d+1) t (.pointer none) (.pointer none)).run P w= .ok true w:=by simp [Op.equalIn,run_underlying h]
theorem YV {P:Program} {t u:TypeId} {x:Value} {ms:Array (String×TypeId)} (h:P.underlying t=some (.interface ms)) (w:World):(Op.equal t (.iface u x) .nilIface).run P w= .ok false w:=tu 9999 h w
theorem ij {P:Program} {t:TypeId} {ms:Array (String×TypeId)} (h:P.underlying t=some (.interface ms)) (w:World):(Op.equal t .nilIface .nilIface).run P w= .ok true w:=zn 9999 h w
theorem R6 {P:Program} {t e:TypeId} {a:Addr} (h:P.underlying t=some (.pointer e)) (w:World):(Op.equal t (.pointer (some a)) (.pointer none)).run P w= .ok false w:=zo 9999 h w
theorem ik {P:Program} {t e:TypeId} (h:P.underlying t=some (.pointer e)) (w:World):(Op.equal t (.pointer none) (.pointer none)).run P w= .ok true w:=zq 9999 h w
theorem oI {P:Program} {op:BinOp} {t:TypeId} {x y:V} {u v:Value} {w:World} {G:AG} {ox oy:Operand} (hx:Ae w G x u) (hy:Ae w G y v) (hs:(Xt P op t (BJ ox||BJ oy) x y).1):
 ∃ r,Ae w G (Xt P op t (BJ ox||BJ oy) x y).2 r/\ ∀ w',(do eqGuard op t ox oy u v;binOp op t u v).run P w'= .ok r w':=by
 unfold Xt at *;split at hs
 ·simp only [Ae,Ah]at hx hy;subst hx hy;exact⟨_,by simp only [Ae];exact(AS (eN (P:=P) (t:=t) (ox:=ox) (oy:=oy) hs.1 hs.2 w).2).2 rfl,fun w'=>(eN hs.1 hs.2 w').1⟩
 ·simp only [Ae,Ah]at hx hy;subst hx hy;exact⟨_,by simp only [Ae];exact(AS (eO (P:=P) (t:=t) (ox:=ox) (oy:=oy) hs w).2).2 rfl,fun w'=>(eO hs w').1⟩
 ·simp only [Ae,Ah]at hx hy;subst hx hy;split at hs
  ·exact⟨_,(AS rfl).2 rfl,(by grind [eqGuard,run_eql_bool,Wd,I3])⟩
  ·exact⟨_,(AS rfl).2 rfl,(by grind [eqGuard,run_neq_bool,Wd,I3])⟩
  grind
 ·simp only [Ae,Ah]at hx hy;subst hx hy;refine H8 hs (by simp) (fun q w'=>?_) (fun q w'=>?_)
  ·have hk:=q.1;cases ox<;>cases oy<;>simp_all [BJ,eqGuard]<;>(try (split<;>rfl))
  grind [R5,ij]
 ·simp only [Ae,Ah]at hx hy;obtain⟨t',x',rfl⟩:=hx;subst hy;refine H8 hs (by simp) (fun q w'=>?_) (fun q w'=>?_)
  ·simp_all [eqGuard]
  grind [R5,YV]
 ·simp only [Ae,Ah]at hx hy;obtain⟨b,_,rfl⟩:=hx;subst hy;refine H8 hs (by simp) (fun q w'=>?_) (fun q w'=>?_)
  ·simp_all [eqGuard]
  grind [QP,R6]
 ·simp only [Ae,Ah]at hx hy;obtain⟨_,b,o,rfl,_⟩:=hx;subst hy;refine H8 hs (by simp) (fun q w'=>?_) (fun q w'=>?_)
  ·simp_all [eqGuard]
  grind [QP,R6]
 ·simp only [Ae,Ah]at hx hy;subst hx hy;refine H8 hs (by simp) (fun q w'=>?_) (fun q w'=>?_)
  ·simp_all [eqGuard]
  grind [QP,ik]
 grind
end Go.PL
namespace Go.PL
open Go Go.RowKit
abbrev no:Prop×V:=(False, .undef)
def zi (op:UnOp):V->Prop×V
 | .c (.int k n)=>match op with
   | .neg =>(True, .c (.int k (k.wrap (0 - n))))
   | .xor =>(True, .c (.int k (R4 k (if k.signed then -1 else k.max) n)))
   | _=>no
 | .c (.bool b)=>match op with
   | .not =>(True, .c (.bool !b))
   | _=>no
 | _=>no
theorem eP {P:Program} {op:UnOp} {x:V} {u:Value} {w:World} {G:AG} (hx:Ae w G x u) (hs:(zi op x).1):
 ∃ r,Ae w G (zi op x).2 r/\ ∀ w',(Op.unary op u).run P w'= .ok r w':=by
 unfold zi at *;split at hs
 ·simp only [Ae,Ah]at hx;subst hx;split at hs
  ·exact⟨_,(AS rfl).2 rfl,(by simp_all [Op.unary,Op.intArith,I3])⟩
  ·exact⟨_,(AS rfl).2 rfl,(by simp_all [Op.unary,Op.intBits,I3,R4])⟩
  grind
 ·simp only [Ae,Ah]at hx;subst hx;split at hs
  ·exact⟨_,(AS rfl).2 rfl,fun w'=>by simp [Op.unary,I3]⟩
  grind
 grind
def kK (P:Program) (t:TypeId):Option IntKind:=
 match P.underlying t with
 | some (.int k)=>some k
 | _=>none
theorem oJ {P:Program} {t:TypeId} {k:IntKind} (h:kK P t=some k):P.underlying t=some (.int k):=by grind [kK]
def zs (P:Program) (t:TypeId):Bool:=(P.underlying t).isSome
def bytesOf:List C->Option (List UInt8)
 | []=>some []
 | .int .u8 n::cs=>match bytesOf cs with
   | some bs=>if 0<=n/\n<256 then some (UInt8.ofNat n.toNat::bs)else none
   | none=>none
 | _=>none
def MJ:List C->List UInt8
 | []=>[]
 | .int _ n::cs=>UInt8.ofNat n.toNat::MJ cs
 | _::cs=>MJ cs
def KS:List C->Prop
 | []=>True
 | .int .u8 n::cs=>(0<=n/\n<256)/\KS cs
 | _=>False
theorem YW: ∀ {cs:List C},KS cs->bytesOf cs=some (MJ cs)
 | [],_=>rfl
 | c::cs,h=>by
   unfold KS at h;split at h
   ·cases ‹_=([]:List C)›
   ·rename_i n cs' he;injection he with h1 h2;subst h1 h2;simp [bytesOf,YW h.2,h.1,MJ]
   ·exact h.elim
def H9 (P:Program) (t:TypeId):Bool:=
 match P.underlying t with
 | some (.slice e)=>match P.underlying e with
   | some (.int .u8)=>true
   | _=>false
 | _=>false
def KT (P:Program) (src dst:TypeId) (st:St):V->Prop×V
 | .c (.int _ n)=>match kK P dst with
   | some k=>(zs P src=true, .c (.int k (k.wrap n)))
   | none=>no
 | .c (.str s)=>(Eb P src=true/\Eb P dst=true, .c (.str s))
 | .c (.h_ id)=>match st.look id with
   | some e=>match e.row with
     | some (_,n,_)=>((H9 P src=true/\Eb P dst=true)/\n=1/\KS e.cs, .c (.str (MJ e.cs)))
     | _=>no
   | none=>no
 | _=>no
theorem UA {P:Program} {t:TypeId} (h:H9 P t=true): ∃ e,P.underlying t=some (.slice e)/\P.underlying e=some (.int .u8):=by grind [H9]
theorem R7 {w:World} {G:AG}: ∀ {cs:List C} {bs:List UInt8} {vs:List Value},bytesOf cs=some bs->Al w G cs vs->vs=bs.map (fun b=>Value.int .u8 b.toNat)
 | [],bs,vs,h,hr=>by simp [bytesOf]at h;subst h;cases vs<;>simp_all [Al]
 | c::cs,bs,vs,h,hr=>by
   cases vs with
   | nil=>simp [Al]at hr
   | cons v vs=>
     simp only [Al]at hr;unfold bytesOf at h;split at h
     ·grind
     ·rename_i n cs' he;injection he with h1 h2;subst h1 h2;split at h
      ·rename_i bs' hb;split at h
       ·rename_i hn;injection h with h;subst h;have:=R7 hb hr.2;simp only [Ah]at hr;rw [hr.1,this];simp only [map_cons,List.cons.injEq,and_true,Value.int.injEq,true_and];have:(UInt8.ofNat n.toNat).toNat =n.toNat:=by simp;omega
        grind
       ·cases h
      ·cases h
     ·cases h
theorem kL {P:Program} {F:Fr} {st:St} {a:Act} {w:World} {G:AG} (h:R F st a w G) {src dst:TypeId} {x:V} {u:Value} (hx:Ae w G x u) (hs:(KT P src dst st x).1):
 ∃ r,Ae w G (KT P src dst st x).2 r/\ ∀ w',CX w w'->(convert src dst u).run P w'= .ok r w':=by
 unfold KT at *;split at hs
 ·simp only [Ae,Ah]at hx;subst hx;split at hs
  ·rename_i k hk;unfold zs at hs;cases hu:P.underlying src with
   | none=>grind
   | some d=>exact⟨_,(AS rfl).2 rfl,(by simp_all [convert,run_underlying,oJ,Conv.intToInt,I3])⟩
  grind
 ·simp only [Ae,Ah]at hx;subst hx;exact⟨_,(AS rfl).2 rfl,(by simp_all [convert,run_underlying,JF,I3])⟩
 ·rename_i id;split at hs
  ·rename_i e he;split at hs
   ·rename_i E n len IN;obtain⟨hs,rfl,hbs⟩:=hs;have hb:=YW hbs;generalize MJ e.cs=bs at *;obtain⟨t,hs1,hs2⟩:=UA hs.1;have hd:=JF hs.2;obtain⟨hm,hid⟩:=Bh he;have hE:=h.store e hm;unfold Be at hE;rw [IN]at hE;obtain⟨hl,v,aaz,ak8⟩:=hE;simp only [Ae,Ah]at hx;rw [hid]at aaz;rw [aaz]at hx;obtain⟨hx,_⟩:=hx;injection hx with hx;subst hx;refine⟨.string ⟨bs.toArray⟩,(AS rfl).2 rfl,fun w' hw'=>?_⟩;rcases ak8 with ⟨p,rfl,h0,_⟩ | ⟨b,cap,cur,rfl,_,_,_,_,_,hr⟩
    ·have:e.cs=[]:=by grind
     rw [this]at hb;simp [bytesOf]at hb;subst hb;cases p with
     | none=>exact run_convert_bytes_nil w' src t hs1 hs2 0 0 dst hd
     | some p=>exact run_convert_bytes_back w' src dst t p 0 [] hs1 hs2 hd (fun j hj=>by simp at hj)
    ·obtain⟨vs,h1,h2⟩:=hr.list;have hv:=R7 hb h1;have hlen:bs.length=len:=by have:=h1.length;grind
     rw [<-hlen];refine run_convert_bytes_back w' src dst t ⟨b,0,none⟩ cap bs hs1 hs2 hd ?_;intro j hj;rw [Addr.add_mid];simpa using hw'.range h2 j (.int .u8 bs[j].toNat) (by grind)
   grind
  grind
 grind
theorem kM {P:Program} {t:TypeId} {f o n:Nat} {ag:Bool} (h:vD P t f=some (o,ag,n)):
 ∃ fs x,P.underlying t=some (.struct fs)/\fs[f]? =some x/\x.offset=o/\KP P x.type=some (ag,n):=by
 unfold vD at h;grind
def B1 (P:Program) (s:TypeId) (f:Nat):V->Prop×V
 | .c (.ptr id off)=>match vD P s f with
   | some (o,_,n)=>(0<n, .c (.ptr id (off+o)))
   | none=>no
 | .c (.abO cs off)=>match vD P s f with
   | some (o,_,n)=>(0<n, .c (.abO cs (off+o)))
   | none=>no
 | _=>no
theorem afk {P:Program} {s:TypeId} {f o n:Nat} {ag:Bool} (h:vD P s f=some (o,ag,n)) (hn:0<n) (b off:Nat) (w:World):
 (Instr.fieldAt s (.pointer (some ⟨b,off,none⟩)) f).run P w= .ok (.pointer (some ⟨b,off+o,none⟩)) w:=by
 obtain⟨fs,x,h1,h2,h3,h4⟩:=kM h;obtain⟨d,i,hu,_,hi,hsz⟩:=C9 h4;simp only [Instr.fieldAt,Sem.run_bind,run_underlying h1,Result.andThen_ok,h2,Instr.sureAddr,Sem.run_pure,fieldPlace,sizeOf,typeInfo];have: ¬i.size=0:=by omega
 simp_all [Addr.add_mid]
theorem LP {P:Program} {s:TypeId} {f:Nat} {x:V} {u:Value} {w:World} {G:AG} (hx:Ae w G x u) (hs:(B1 P s f x).1):
 ∃ r,Ae w G (B1 P s f x).2 r/\ ∀ w',(Instr.fieldAt s u f).run P w'= .ok r w':=by
 unfold B1 at *;split at hs
 ·split at hs
  ·rename_i o ag n hf;simp only [Ae,Ah]at hx ⊢;obtain⟨b,hb,rfl⟩:=hx;exact⟨_,⟨b,hb,rfl⟩,fun w'=>afk hf hs b _ w'⟩
  grind
 ·split at hs
  ·rename_i o ag n hf;simp only [Ae,Ah]at hx ⊢;obtain⟨hp,b,o',rfl,h1,h2,h3⟩:=hx;exact⟨_,⟨hp,b,o',rfl,h1,h2,h3⟩,fun w'=>by rw [afk hf hs b _ w',Nat.add_assoc]⟩
  grind
 grind
theorem acs {P:Program} {t:TypeId} {ag:Bool} {n:Nat} (ht:KP P t=some (ag,n)) {w:World} {G:AG} {cs:List C} {arr:Array Value} (h:Al w G cs arr.toList) {off:Nat} (hb:off+n<=cs.length) (h0:ag=true\/0<n):
 ∃ r,Ae w G (toV ag off n cs) r/\ ∀ w',(part t arr off).run P w'= .ok r w':=by
 obtain⟨d,i,hu,hd,hi,hsz⟩:=C9 ht;have axU: ∀ w',(isAgg t).run P w'= .ok ag w':=by intro w';unfold isAgg;rw [Sem.run_bind,run_underlying hu w'];cases d<;>simp_all
 have hlen:=h.length;unfold toV;cases hag:ag with
 | true=>
   refine⟨.agg (arr.extract off (off+n)),⟨_,rfl,?_⟩,fun w'=>?_⟩
   ·have:=(h.drop off).take n;simp_all
   simp_all [part,sizeOf,typeInfo]
 | false=>
   have hn0:0<n:=by grind
   have hlt:off<cs.length:=by omega
   obtain⟨v,hv,hr⟩:=h.get off cs[off] (by simp [hlt]);refine⟨v,by grind [Ae],fun w'=>?_⟩;simp_all [part]
def JG (P:Program) (t:TypeId) (f:Nat):V->Prop×V
 | .agg cs=>match vD P t f with
   | some (o,ag,n)=>(o+n<=cs.length/\(ag=true\/0<n),toV ag o n cs)
   | none=>no
 | _=>no
theorem io {P:Program} {t:TypeId} {f:Nat} {x:V} {u:Value} {w:World} {G:AG} (hx:Ae w G x u) (hs:(JG P t f x).1):
 ∃ r,Ae w G (JG P t f x).2 r/\ ∀ w',(Instr.field t u f).run P w'= .ok r w':=by
 unfold JG at *;split at hs
 ·split at hs
  ·rename_i o ag n hf;simp only [Ae]at hx;obtain⟨arr,rfl,hr⟩:=hx;obtain⟨fs,y,h1,h2,h3,h4⟩:=kM hf;simp_all [acs,Instr.field,run_underlying,asAgg]
  grind
 grind
def Ch (P:Program) (t:TypeId) (st:St) (x y:V):Prop×V:=
 match y with
 | .c (.int _ i)=>match x with
   | .c (.sl len cs)=>match DG P t with
     | some (_,n)=>(0<=i/\i<len, .c (.abO cs (i.toNat*n)))
     | none=>no
   | .c (.h_ id)=>match DG P t,st.acj id with
     | some (_,n),some e=>match e.row with
       | some (_,_,len)=>(0<=i/\i<len, .c (.ptr id (i.toNat*n)))
       | none=>no
     | _,_=>no
   | .c (.bsl id off len)=>match DG P t with
     | some (_,n)=>(0<=i/\i<len, .c (.ptr id (off+i.toNat*n)))
     | none=>no
   | .c (.ptr id off)=>match Gq P t with
     | some (k,_,n)=>(0<=i/\i<k, .c (.ptr id (off+i.toNat*n)))
     | none=>no
   | .c (.abO cs off)=>match Gq P t with
     | some (k,_,n)=>(0<=i/\i<k, .c (.abO cs (off+i.toNat*n)))
     | none=>no
   | _=>no
 | _=>no
theorem Ed {P:Program} {t e:TypeId} {n:Nat} (h:DG P t=some (e,n)) (b o len cap:Nat) (k:IntKind) (i:Int) (h0:0<=i) (h1:i<len) (w:World):
 (Instr.indexAt t (.slice (some ⟨b,o,none⟩) len cap) (.int k i)).run P w= .ok (.pointer (some ⟨b,o+i.toNat*n,none⟩)) w:=by
 obtain⟨hu,inf,hi,hsz⟩:=Ec h;simp [Instr.indexAt,asIntOf,Sem.run_bind,run_underlying hu,h0,h1,sizeOf,typeInfo,program,Sem.run,hi,hsz,Addr.add_mid]
theorem JH {P:Program} {t e:TypeId} {m n:Nat} (h:Gq P t=some (m,e,n)) (b o:Nat) (k:IntKind) (i:Int) (h0:0<=i) (h1:i<m) (w:World):
 (Instr.indexAt t (.pointer (some ⟨b,o,none⟩)) (.int k i)).run P w= .ok (.pointer (some ⟨b,o+i.toNat*n,none⟩)) w:=by
 obtain⟨hu,inf,hi,hsz⟩:=MI h;simp [Instr.indexAt,asIntOf,Sem.run_bind,run_underlying hu,h0,h1,sizeOf,typeInfo,program,Sem.run,hi,hsz,Addr.add_mid,Instr.sureAddr]
theorem LR {P:Program} {F:Fr} {st:St} {a:Act} {w:World} {G:AG} (h:R F st a w G) {t:TypeId} {x y:V} {u v:Value} (hx:Ae w G x u) (hy:Ae w G y v) (hs:(Ch P t st x y).1):
 ∃ r,Ae w G (Ch P t st x y).2 r/\ ∀ w',(Instr.indexAt t u v).run P w'= .ok r w':=by
 unfold Ch at *;split at hs
 ·rename_i k i;simp only [Ae,Ah]at hy;subst hy;split at hs
  ·split at hs
   ·rename_i len cs e n hse;simp only [Ae,Ah]at hx ⊢;obtain⟨hp,ad,cap,rfl,_,_,_,h0 | ⟨b,o,rfl,h1,h2,h3⟩⟩:=hx
    ·omega
    ·exact⟨_,⟨hp,b,o,rfl,h1,h2,h3⟩,(by grind [Ed])⟩
   grind
  ·rename_i id;split at hs
   ·rename_i e n en hse hlk;split at hs
    ·rename_i E n' len IN;obtain⟨hm,hid⟩:=Uz hlk;have hE:=h.store en hm;unfold Be at hE;rw [IN]at hE;obtain⟨hl,v,aaz,ak8⟩:=hE;simp only [Ae,Ah]at hx ⊢;rw [hid]at aaz;rw [aaz]at hx;obtain⟨hx,_⟩:=hx;injection hx with hx;subst hx;rcases ak8 with ⟨_,h0,_⟩ | ⟨b,cap,cur,rfl,hb,_⟩
     ·omega
     ·refine⟨_,⟨b,by rw [<-hid];exact hb,rfl⟩,fun w'=>?_⟩;simpa using Ed hse b 0 len cap k i hs.1 hs.2 w'
    grind
   grind
  ·rename_i id off len;split at hs
   ·rename_i e n hse;simp only [Ae,Ah]at hx ⊢;obtain⟨b,cap,o,hb,rfl,hc,_,ho⟩:=hx;have ho:o=off:=(by grind);subst ho;exact⟨_,⟨b,hb,rfl⟩,(by grind [Ed])⟩
   grind
  ·split at hs
   ·rename_i m e n hae;simp only [Ae,Ah]at hx ⊢;obtain⟨b,hb,rfl⟩:=hx;exact⟨_,⟨b,hb,rfl⟩,(by grind [JH])⟩
   grind
  ·split at hs
   ·rename_i m e n hae;simp only [Ae,Ah]at hx ⊢;obtain⟨hp,b,o,rfl,h1,h2,h3⟩:=hx;exact⟨_,⟨hp,b,o,rfl,h1,h2,h3⟩,(by grind [JH])⟩
   grind
  grind
 grind
def IG (P:Program) (t:TypeId) (x y:V):Prop×V:=
 match y with
 | .c (.int _ i)=>match x with
   | .c (.str s)=>(Eb P t=true/\0<=i/\i<s.length, .c (.int .u8 (s.getD i.toNat 0).toNat))
   | .agg cs=>match Gq P t with
     | some (k,e,n)=>match KP P e with
       | some (ag,_)=>(0<=i/\i<k/\i.toNat*n+n<=cs.length/\0<n,toV ag (i.toNat*n) n cs)
       | none=>no
     | none=>no
   | _=>no
 | _=>no
theorem iq {P:Program} {t:TypeId} {x y:V} {u v:Value} {w:World} {G:AG} (hx:Ae w G x u) (hy:Ae w G y v) (hs:(IG P t x y).1):
 ∃ r,Ae w G (IG P t x y).2 r/\ ∀ w',(Instr.index t u v).run P w'= .ok r w':=by
 unfold IG at *;split at hs
 ·rename_i k i;simp only [Ae,Ah]at hy;subst hy;split at hs
  ·simp only [Ae,Ah]at hx;subst hx;obtain⟨h1,h2,h3⟩:=hs;rename_i s;refine⟨_,(AS rfl).2 rfl,fun w'=>?_⟩;have hlt:i.toNat<s.length:=by omega
   have hg:(⟨s.toArray⟩:ByteArray)[i.toNat]? =some s[i.toNat]:=by rw [getElem?_pos _ _ (by simpa [ByteArray.size] using hlt)];rfl
   simp_all [Instr.index,asIntOf,run_underlying,JF,I3]
  ·split at hs
   ·rename_i m e n hae;split at hs
    ·rename_i ag n' hts;obtain⟨hu,inf,hi,hsz⟩:=MI hae;obtain⟨d,aD4,hu',hd,hi',aEj⟩:=C9 hts;rw [hi]at hi';injection hi' with hi';subst hi';have hnn:n'=n:=by omega
     subst hnn;simp only [Ae]at hx;obtain⟨arr,rfl,hr⟩:=hx;obtain⟨r,q1,q2⟩:=acs hts hr hs.2.2.1 (.inr hs.2.2.2);simp_all [Instr.index,asIntOf,run_underlying,sizeOf,typeInfo]
    grind
   grind
  grind
 grind
end Go.PL
namespace Go.PL
open Go Go.RowKit
def dm (len:Nat) (lo hi:Option V):Option (Int×Int):=
 match lo,hi with
 | none,none=>some (0,len)
 | some (.c (.int _ l)),none=>some (l,len)
 | none,some (.c (.int _ h))=>some (0,h)
 | some (.c (.int _ l)),some (.c (.int _ h))=>some (l,h)
 | _,_=>none
def Hb (P:Program) (t:TypeId) (x:V) (lo hi:Option V):Prop×V:=
 match x with
 | .c (.str s)=>match dm s.length lo hi with
   | some (l,h)=>(Eb P t=true/\0<=l/\l<=h/\h<=s.length, .c (.str ((s.drop l.toNat).take (h.toNat - l.toNat))))
   | none=>no
 | .c (.sl len cs)=>match DG P t,dm len lo hi with
   | some (_,n),some (l,h)=>(0<=l/\l<=h/\h<=len/\cs.length=len*n, .c (.sl (h.toNat - l.toNat) ((cs.drop (l.toNat*n)).take ((h.toNat - l.toNat)*n))))
   | _,_=>no
 | .c (.ptr id off)=>match Gq P t,dm (match Gq P t with
  | some (k,_,_)=>k
  | none=>0) lo hi with
  | some (k,_,n),some (l,h)=>(0<=l/\l<k/\l<=h/\h<=k, .c (.bsl id (off+l.toNat*n) (h.toNat - l.toNat)))
  | _,_=>no
 | _=>no
def JI (w:World) (G:AG):Option V->Option Value->Prop
 | none,none=>True
 | some x,some v=>Ae w G x v
 | _,_=>False
theorem Th {P:Program} (w:World) (k:IntKind) (i:Int) (y:Nat) (code:BoundsCode) (h0:0<=i) (h1:i<=y):
 (Instr.sliceBound (.int k i) y code).run P w= .ok i.toNat w:=by
 simp_all [Instr.sliceBound,asIntOf]
theorem YX {P:Program} {w:World} {G:AG} {len cap:Nat} {lo hi:Option V} {lv hv:Option Value} {l h:Int} (sl:Bool) (hb:dm len lo hi=some (l,h)) (h1:JI w G lo lv) (h2:JI w G hi hv)
 (q1:0<=l) (q2:l<=h) (q3:h<=len) (q4:len<=cap): ∀ w',(Instr.sliceBounds sl len cap lv hv none).run P w'= .ok (l.toNat,h.toNat,cap) w':=by
 intro w';unfold dm at hb;split at hb
 ·simp only [injEq,Prod.mk.injEq]at hb;obtain⟨rfl,rfl⟩:=hb;cases lv<;>cases hv<;>simp only [JI]at h1 h2;simp [Instr.sliceBounds]
 ·rename_i k1 l1;simp only [injEq,Prod.mk.injEq]at hb;obtain⟨rfl,rfl⟩:=hb;cases lv<;>cases hv<;>simp only [JI,Ae,Ah]at h1 h2;simp_all [Th,Instr.sliceBounds]
 ·rename_i k2 l2;simp only [injEq,Prod.mk.injEq]at hb;obtain⟨rfl,rfl⟩:=hb;cases lv<;>cases hv<;>simp only [JI,Ae,Ah]at h1 h2;subst h2;have e2:=fun code=>Th (P:=P) w' k2 l2 cap code (by omega) (by omega);simp [Instr.sliceBounds,e2]
 ·rename_i k1 l1 k2 l2;simp only [injEq,Prod.mk.injEq]at hb;obtain⟨rfl,rfl⟩:=hb;cases lv<;>cases hv<;>simp only [JI,Ae,Ah]at h1 h2;subst h1 h2;have e1:=fun code=>Th (P:=P) w' k1 l1 l2.toNat code q1 (by omega);have e2:=fun code=>Th (P:=P) w' k2 l2 cap code (by omega) (by omega);simp_all [Instr.sliceBounds]
 ·cases hb
theorem ir {P:Program} {t:TypeId} {x:V} {lo hi:Option V} {u:Value} {lv hv:Option Value} {w:World} {G:AG} (hx:Ae w G x u) (h1:JI w G lo lv) (h2:JI w G hi hv) (hs:(Hb P t x lo hi).1):
 ∃ r,Ae w G (Hb P t x lo hi).2 r/\ ∀ w',(Instr.sliceAt t u lv hv none).run P w'= .ok r w':=by
 unfold Hb at *;split at hs
 ·rename_i s;split at hs
  ·rename_i l h hb;simp only [Ae,Ah]at hx;subst hx;obtain⟨q0,q1,q2,q3⟩:=hs;refine⟨_,(AS rfl).2 rfl,fun w'=>?_⟩;have e:(⟨s.toArray⟩:ByteArray).extract l.toNat h.toNat=⟨((s.drop l.toNat).take (h.toNat - l.toNat)).toArray⟩:=by apply ByteArray.ext;simp_all
   have:=YX (P:=P) (w:=w) (G:=G) false (len:=s.length) (cap:=s.length) hb h1 h2 q1 q2 q3 (le_refl _) w';simp_all [Instr.sliceAt,Instr.slice,run_underlying,JF,oH,I3]
  grind
 ·rename_i len cs;split at hs
  ·rename_i e n l h hse hb;obtain⟨q1,q2,q3,q4⟩:=hs;obtain⟨hu,inf,hi',hsz⟩:=Ec hse;simp only [Ae,Ah]at hx ⊢;obtain⟨hp,ad,cap,rfl,c1,c2,c3,c4⟩:=hx;have hr:=fun w'=>YX (P:=P) (w:=w) (G:=G) true (len:=len) (cap:=cap) hb h1 h2 q1 q2 q3 c1 w';refine⟨.slice (if cap=l.toNat then ad else ad.map (·.add (l.toNat*n))) (h.toNat - l.toNat) (cap - l.toNat),⟨MF _ (MG _ hp),_,_,rfl,by omega,by omega,?_,?_⟩,fun w'=>?_⟩
   ·simp_all
   ·by_cases hz:h.toNat - l.toNat=0
    ·grind
    ·right;rcases c4 with c4 | ⟨b,o,rfl,k1,k2,k3⟩
     ·omega
     ·have hne: ¬cap=l.toNat:=by omega
      refine⟨b,o+l.toNat*n,?_,k1,k2,?_⟩
      ·simp_all [Addr.add_mid]
      ·exact(k3.drop (l.toNat*n)).take _
   simp_all [Instr.sliceAt,Instr.slice,run_underlying,sizeOf,typeInfo]
  grind
 ·rename_i id off;split at hs
  ·rename_i k e n l h hae hb;obtain⟨q1,q2,q3,q4⟩:=hs;obtain⟨hu,inf,hi',hsz⟩:=MI hae;simp only [hae]at hb;simp only [Ae,Ah]at hx ⊢;obtain⟨b,hb1,rfl⟩:=hx;have hr:=fun sl w'=>YX (P:=P) (w:=w) (G:=G) sl (len:=k) (cap:=k) hb h1 h2 q1 q3 q4 (le_refl _) w';have hne: ¬k=l.toNat:=by omega
   refine⟨.slice (some (if k=l.toNat then⟨b,off,none⟩else(⟨b,off,none⟩:Addr).add (l.toNat*n))) (h.toNat - l.toNat) (k - l.toNat),⟨b,k - l.toNat,off+l.toNat*n,hb1,?_,by omega,le_refl _, .inr rfl⟩,fun w'=>?_⟩
   ·simp_all [Addr.add_mid]
   simp_all [Instr.sliceAt,Instr.sureAddr,run_underlying,sizeOf,typeInfo]
  grind
 grind
def EI (P:Program) (t:TypeId):Bool:=
 match P.underlying t with
 | some (.slice _)=>true
 | _=>false
def QQ (P:Program) (t:TypeId) (st:St) (x:V):Prop×V:=
 match x with
 | .c (.str s)=>(Eb P t=true, .c (.int .i64 s.length))
 | .c (.sl len _)=>(EI P t=true, .c (.int .i64 len))
 | .c (.h_ id)=>match st.acj id with
   | some e=>match e.row with
     | some (_,_,len)=>(EI P t=true, .c (.int .i64 len))
     | none=>no
   | none=>no
 | .c (.bsl _ _ len)=>(EI P t=true, .c (.int .i64 len))
 | .c (.rsl _ _ _ len)=>(EI P t=true, .c (.int .i64 len))
 | _=>match Gq P t with
   | some (k,_,_)=>(True, .c (.int .i64 k))
   | none=>no
theorem EJ {P:Program} {t:TypeId} (h:EI P t=true): ∃ e,P.underlying t=some (.slice e):=by grind [EI]
theorem tv {F:Fr} {st:St} {a:Act} {w:World} {G:AG} (h:R F st a w G) {id:Ak} {e:Ax} (he:st.acj id=some e) {E n len:Nat} (IN:e.row=some (E,n,len)) {u:Value} (hx:Ah w G (.h_ id) u):
 ∃ ad cap,u= .slice ad len cap:=by
 obtain⟨hm,hid⟩:=Uz he;have hE:=h.store e hm;unfold Be at hE;rw [IN]at hE;obtain⟨hl,v,aaz,ak8⟩:=hE;simp only [Ah]at hx;grind
theorem oK {P:Program} {F:Fr} {st:St} {a:Act} {w:World} {G:AG} (h:R F st a w G) {t ty:TypeId} {x:V} {u:Value} (hx:Ae w G x u) (hs:(QQ P t st x).1):
 ∃ r,Ae w G (QQ P t st x).2 r/\ ∀ w',(Builtin.len_ #[t] ty #[u]).run P w'= .ok r w':=by
 unfold QQ at *;split at hs
 ·simp only [Ae,Ah]at hx;subst hx;exact⟨_,(AS rfl).2 rfl,(by simp_all [Builtin.len_,run_underlying,JF,goInt,oH,I3])⟩
 ·obtain⟨e,he⟩:=EJ hs;simp only [Ae,Ah]at hx;obtain⟨_,ad,cap,rfl,_⟩:=hx;exact⟨_,(AS rfl).2 rfl,(by simp_all [Builtin.len_,run_underlying,goInt,I3])⟩
 ·split at hs
  ·rename_i e hlk;split at hs
   ·rename_i E n len IN;obtain⟨el,he⟩:=EJ hs;obtain⟨ad,cap,rfl⟩:=tv h hlk IN (by simpa [Ae] using hx);exact⟨_,(AS rfl).2 rfl,(by simp_all [Builtin.len_,run_underlying,goInt,I3])⟩
   grind
  grind
 ·obtain⟨e,he⟩:=EJ hs;simp only [Ae,Ah]at hx;obtain⟨b,cap,o,hb,rfl,hc,_⟩:=hx;exact⟨_,(AS rfl).2 rfl,(by simp_all [Builtin.len_,run_underlying,goInt,I3])⟩
 ·obtain⟨e,he⟩:=EJ hs;simp only [Ae,Ah]at hx;obtain⟨_,_,_,_,_,_,rfl,_⟩:=hx;exact⟨_,(AS rfl).2 rfl,(by simp_all [Builtin.len_,run_underlying,goInt,I3])⟩
 ·split at hs
  ·rename_i k el n hae;obtain⟨hu,_⟩:=MI hae;exact⟨_,(AS rfl).2 rfl,(by simp_all [Builtin.len_,run_underlying,goInt,I3])⟩
  grind
def Lt:List V->Option (IntKind×Int×List Int)
 | [.c (.int k x)]=>some (k,x,[])
 | .c (.int k x)::vs=>match Lt vs with
   | some (_,y,ys)=>some (k,x,y::ys)
   | none=>none
 | _=>none
def oL (vs:List V):Prop×V:=
 match Lt vs with
 | some (k,x,ys)=>(True, .c (.int k (ys.foldl (fun a y=>if y<a then y else a) x)))
 | none=>no
def oM (vs:List V):Prop×V:=
 match Lt vs with
 | some (k,x,ys)=>(True, .c (.int k (ys.foldl (fun a y=>if a<y then y else a) x)))
 | none=>no
theorem QR {w:World} {G:AG}: ∀ {vs:List V} {us:List Value} {k:IntKind} {x:Int} {ys:List Int},Lt vs=some (k,x,ys)->Aq w G vs us->
 ∃ ks:List IntKind,us= .int k x::(ks.zip ys).map (fun p=>Value.int p.1 p.2)/\ks.length=ys.length
 | [],us,k,x,ys,h,_=>by simp [Lt]at h
 | [v],us,k,x,ys,h,hr=>by
   unfold Lt at h;split at h
   ·rename_i k' x' he;injection he with he _;subst he;simp only [injEq,Prod.mk.injEq]at h;obtain⟨rfl,rfl,rfl⟩:=h;simp only [Aq,Ae,Ah]at hr;simp_all
   all_goals grind
 | v::v2::vs,us,k,x,ys,h,hr=>by
   unfold Lt at h;split at h
   ·grind
   ·rename_i k' x' vs' hne he;injection he with he1 he2;subst he1 he2;split at h
    ·rename_i k2 y ys' q;simp only [injEq,Prod.mk.injEq]at h;obtain⟨rfl,rfl,rfl⟩:=h;rw [Aq]at hr;obtain⟨u,r,rfl,h1,h2⟩:=hr;simp only [Ae,Ah]at h1;subst h1;obtain⟨ks,e,hl⟩:=QR q h2;exact⟨k2::ks,by rw [e];simp,by simp [hl]⟩
    ·cases h
   ·cases h
theorem R8 {P:Program} (w:World) (k:IntKind): ∀ (ks:List IntKind) (ys:List Int) (x:Int),ks.length=ys.length->
 (((ks.zip ys).map (fun p=>Value.int p.1 p.2)).foldlM Builtin.min2 (.int k x)).run P w= .ok (.int k (ys.foldl (fun a y=>if y<a then y else a) x)) w
 | [],[],x,_=>by simp
 | [],_::_,_,h=>by simp at h
 | _::_,[],_,h=>by simp at h
 | k'::ks,y::ys,x,h=>by simp only [List.zip_cons_cons,map_cons,List.foldlM_cons,foldl_cons,Sem.run_bind,Builtin.min2,Sem.run_pure,Result.andThen_ok];exact R8 w k ks ys _ (by simpa using h)
theorem R9 {P:Program} (w:World) (k:IntKind): ∀ (ks:List IntKind) (ys:List Int) (x:Int),ks.length=ys.length->
 (((ks.zip ys).map (fun p=>Value.int p.1 p.2)).foldlM Builtin.max2 (.int k x)).run P w= .ok (.int k (ys.foldl (fun a y=>if a<y then y else a) x)) w
 | [],[],x,_=>by simp
 | [],_::_,_,h=>by simp at h
 | _::_,[],_,h=>by simp at h
 | k'::ks,y::ys,x,h=>by simp only [List.zip_cons_cons,map_cons,List.foldlM_cons,foldl_cons,Sem.run_bind,Builtin.max2,Sem.run_pure,Result.andThen_ok];exact R9 w k ks ys _ (by simpa using h)
theorem oN {P:Program} {vs:List V} {us:Array Value} {w:World} {G:AG} {ts:Array TypeId} {ty:TypeId} (hx:Aq w G vs us.toList) (hs:(oL vs).1):
 ∃ r,Ae w G (oL vs).2 r/\ ∀ w',(Builtin.min_ ts ty us).run P w'= .ok r w':=by
 unfold oL at *;split at hs
 ·rename_i k x ys h;obtain⟨ks,e,hl⟩:=QR h hx;exact⟨_,(AS rfl).2 rfl,fun w'=>by simp only [Builtin.min_,e];exact R8 w' k ks ys x hl⟩
 grind
theorem oO {P:Program} {vs:List V} {us:Array Value} {w:World} {G:AG} {ts:Array TypeId} {ty:TypeId} (hx:Aq w G vs us.toList) (hs:(oM vs).1):
 ∃ r,Ae w G (oM vs).2 r/\ ∀ w',(Builtin.max_ ts ty us).run P w'= .ok r w':=by
 unfold oM at *;split at hs
 ·rename_i k x ys h;obtain⟨ks,e,hl⟩:=QR h hx;exact⟨_,(AS rfl).2 rfl,fun w'=>by simp only [Builtin.max_,e];exact R9 w' k ks ys x hl⟩
 grind
end Go.PL
namespace Go.PL
open Go Go.RowKit
def Q_ (p:Prop×V) (f:V->Prop×V):Prop×V:=(p.1/\(f p.2).1,(f p.2).2)
def St.args (st:St) (g:Bool):List Operand->Prop×List V
 | []=>(True,[])
 | x::xs=>((st.arg g x).1/\(st.args g xs).1,(st.arg g x).2::(st.args g xs).2)
def QS:V->Option (Bool×Bool)
 | .c (.bool q)=>some (true,q)
 | .g c (.c (.bool q))=>some (c,q)
 | _=>none
def YY (p:Bool) (a b:V):Prop×V:=
 match QS a,QS b with
 | some (ca,q),some (cb,r)=>((p=true->ca=true)/\(p=false->cb=true), .c (.bool (if p then q else r)))
 | _,_=>no
def dn:V->Prop×V
 | .c (.ptr id off)=>(True, .c (.ptr id off))
 | .c (.abO cs off)=>(True, .c (.abO cs off))
 | .c (.fn f)=>(True, .c (.fn f))
 | .c (.clo f cs)=>(True, .c (.clo f cs))
 | .c (.bmv f cs)=>(True, .c (.bmv f cs))
 | _=>no
def oP (i:Nat):V->Prop×V
 | .tup vs=>(i<vs.length,vs.getD i .undef)
 | _=>no
def C0 (st:St) (g:Bool):Option Operand->Prop×Option V
 | none=>(True,none)
 | some x=>((st.arg g x).1,some (st.arg g x).2)
def QT (P:Program) (st:St) (g:Bool) (b:Builtin) (xs:List Operand) (ts:List TypeId):Prop×V:=
 match b,xs,ts with
 | .len,[x],[t]=>Q_ (st.arg g x) (QQ P t st)
 | .min,xs,_=>((st.args g xs).1/\(oL (st.args g xs).2).1,(oL (st.args g xs).2).2)
 | .max,xs,_=>((st.args g xs).1/\(oM (st.args g xs).2).1,(oM (st.args g xs).2).2)
 | _,_,_=>no
def rd (P:Program) (st:St) (g:Bool):Op->Prop×V
 | .move x=>st.arg g x
 | .assign x=>st.arg g x
 | .pick c a b=>Q_ (st.arg g c) fun p=>match p with
   | .c (.bool q)=>YY q (st.ev a) (st.ev b)
   | _=>no
 | .load t x=>Q_ (st.arg g x) (DM P t st)
 | .nilCheck x=>Q_ (st.arg g x) dn
 | .binOp op t x y _=>Q_ (st.arg g x) fun u=>Q_ (st.arg g y) fun v=>Xt P op t (BJ x||BJ y) u v
 | .unOp op _ x=>Q_ (st.arg g x) (zi op)
 | .convert src dst x=>Q_ (st.arg g x) (KT P src dst st)
 | .slice t x lo hi none=>Q_ (st.arg g x) fun u=>((C0 st g lo).1/\(C0 st g hi).1/\(Hb P t u (C0 st g lo).2 (C0 st g hi).2).1,(Hb P t u (C0 st g lo).2 (C0 st g hi).2).2)
 | .fieldAddr s x f=>Q_ (st.arg g x) (B1 P s f)
 | .field t x f=>Q_ (st.arg g x) (JG P t f)
 | .indexAddr t x i=>Q_ (st.arg g x) fun u=>Q_ (st.arg g i) fun v=>Ch P t st u v
 | .index t x i=>Q_ (st.arg g x) fun u=>Q_ (st.arg g i) fun v=>IG P t u v
 | .extract x i=>Q_ (st.arg g x) (oP i)
 | .call c=>match c.callee with
   | .builtin b=>QT P st g b c.args.toList c.argTypes.toList
   | _=>no
 | _=>no
theorem YZ {w:World} {G:AG} {x:V} {v:Value} {c q:Bool} (h:QS x=some (c,q)) (hr:Ae w G x v) (hc:c=true):v= .bool q:=by
 unfold QS at h;split at h
 ·simp only [injEq,Prod.mk.injEq]at h;obtain⟨rfl,rfl⟩:=h;grind [Ae,Ah]
 ·simp only [injEq,Prod.mk.injEq]at h;obtain⟨rfl,rfl⟩:=h;simp_all [Ae,Ah]
 ·cases h
theorem R.args {F:Fr} {st:St} {a:Act} {w:World} {G:AG} (h:R F st a w G) {g:Bool} (hg:g=true): ∀ {xs:List Operand},(st.args g xs).1->Aq w G (st.args g xs).2 (xs.map a.eval)
 | [],_=>by simp [St.args,Aq]
 | x::xs,hs=>by simp only [St.args]at hs ⊢;simp only [Aq,map_cons];exact⟨_,_,rfl,h.arg hg hs.1,h.args hg hs.2⟩
theorem Jn {w:World} {G:AG}: ∀ {xs:List V} {vs:List Value},Aq w G xs vs-> ∀ i,i<xs.length-> ∃ v,vs[i]? =some v/\Ae w G (xs.getD i .undef) v
 | [],vs,h,i,hi=>by simp at hi
 | x::xs,vs,h,i,hi=>by
   simp only [Aq]at h;obtain⟨v,r,rfl,h1,h2⟩:=h;cases i with
   | zero=>exact⟨v,by simp,by simpa using h1⟩
   | succ i=>
     obtain⟨v',q1,q2⟩:=Jn h2 i (by simpa using hi);exact⟨v',by simpa using q1,by simpa using q2⟩
theorem Y0 {F:Fr} {st:St} {a:Act} {w:World} {G:AG} (h:R F st a w G) {g:Bool} (hg:g=true) {x:Option Operand} (hs:(C0 st g x).1):JI w G (C0 st g x).2 (x.map a.eval):=by
 cases x with
 | none=>simp [C0,JI]
 | some x=>simp only [C0,Option.map,JI]at hs ⊢;exact h.arg hg hs
theorem kN {P:Program} {F:Fr} {st:St} {a:Act} {w:World} {G:AG} (h:R F st a w G) {g:Bool} (hg:g=true) {o:Oper} (hs:(rd P st g o.op).1):
 ∃ v,Ae w G (rd P st g o.op).2 v/\ ∀ w',CX w w'->(execOp a.eval o).run P w'= .ok (.value v) w':=by
 cases ho:o.op<;>simp only [rd,ho,Q_]at hs ⊢ <;>try (exact hs.elim)
 case move x=>exact⟨_,h.arg hg hs,fun w' _=>by simp [execOp,ho]⟩
 case assign x=>exact⟨_,h.arg hg hs,fun w' _=>by simp [execOp,ho]⟩
 case pick c x y=>
  obtain⟨h1,h2⟩:=hs;have hc:=h.arg hg h1;split at h2
  ·rename_i q hq;rw [hq]at hc;simp only [Ae,Ah]at hc;unfold YY at h2 ⊢;split at h2
   ·rename_i ca qa cb qb e1 e2;cases q with
    | true=>
      have:=YZ e1 (h.ev x) (h2.1 rfl);simp_all [Ae,Ah,execOp,asBool]
    | false=>
      have:=YZ e2 (h.ev y) (h2.2 rfl);simp_all [Ae,Ah,execOp,asBool]
   grind
  grind
 case load t x=>
  obtain⟨v,q1,q2⟩:=Ot (P:=P) h (h.arg hg hs.1) hs.2;exact⟨v,q1,(by simp_all [execOp])⟩
 case nilCheck x=>
  obtain⟨h1,h2⟩:=hs;have hx:=h.arg hg h1;unfold dn at h2 ⊢;split at h2
  ·rename_i id off e;rw [e]at hx;simp only [Ae,Ah]at hx ⊢;obtain⟨b,hb,hv⟩:=hx;exact⟨_,⟨b,hb,rfl⟩,(by simp_all [execOp])⟩
  ·rename_i cs off e;rw [e]at hx;simp only [Ae,Ah]at hx ⊢;obtain⟨hp,b,o',hv,k1⟩:=hx;exact⟨_,⟨hp,b,o',rfl,k1⟩,(by simp_all [execOp])⟩
  ·rename_i f e;rw [e]at hx;simp only [Ae,Ah]at hx ⊢;exact⟨_,rfl,(by simp_all [execOp])⟩
  ·rename_i f cs e;rw [e]at hx;simp only [Ae,Ah]at hx ⊢;obtain⟨arr,hv,hr⟩:=hx;exact⟨_,⟨arr,rfl,hr⟩,(by simp_all [execOp])⟩
  ·rename_i f cs e;rw [e]at hx;simp only [Ae,Ah]at hx ⊢;obtain⟨arr,hv,hr⟩:=hx;exact⟨_,⟨arr,rfl,hr⟩,(by simp_all [execOp])⟩
  grind
 case binOp op t x y t'=>
  obtain⟨v,q1,q2⟩:=oI (P:=P) (ox:=x) (oy:=y) (h.arg hg hs.1) (h.arg hg hs.2.1) hs.2.2;refine⟨v,q1,fun w' hw'=>?_⟩;have:=q2 w';simp only [execOp,ho,Sem.run_bind]at this ⊢;simp_all
 case unOp op t x=>
  obtain⟨v,q1,q2⟩:=eP (P:=P) (h.arg hg hs.1) hs.2;exact⟨v,q1,(by simp_all [execOp])⟩
 case convert src dst x=>
  obtain⟨v,q1,q2⟩:=kL (P:=P) h (h.arg hg hs.1) hs.2;exact⟨v,q1,(by simp_all [execOp])⟩
 case slice t x lo hi mx=>
  cases mx with
  | some _=>grind
  | none=>
    simp only [Q_]at hs ⊢;obtain⟨v,q1,q2⟩:=ir (P:=P) (h.arg hg hs.1) (Y0 h hg hs.2.1) (Y0 h hg hs.2.2.1) hs.2.2.2;exact⟨v,q1,(by simp_all [execOp])⟩
 case fieldAddr s x f=>
  obtain⟨v,q1,q2⟩:=LP (P:=P) (h.arg hg hs.1) hs.2;exact⟨v,q1,(by simp_all [execOp])⟩
 case field s x f=>
  obtain⟨v,q1,q2⟩:=io (P:=P) (h.arg hg hs.1) hs.2;exact⟨v,q1,(by simp_all [execOp])⟩
 case indexAddr t x i=>
  obtain⟨v,q1,q2⟩:=LR (P:=P) h (h.arg hg hs.1) (h.arg hg hs.2.1) hs.2.2;exact⟨v,q1,(by simp_all [execOp])⟩
 case index t x i=>
  obtain⟨v,q1,q2⟩:=iq (P:=P) (h.arg hg hs.1) (h.arg hg hs.2.1) hs.2.2;exact⟨v,q1,(by simp_all [execOp])⟩
 case extract x i=>
  obtain⟨h1,h2⟩:=hs;have hx:=h.arg hg h1;unfold oP at h2 ⊢;split at h2
  ·rename_i vs e;rw [e]at hx;simp only [Ae]at hx;obtain⟨arr,hv,hr⟩:=hx;obtain⟨v,q1,q2⟩:=Jn hr i h2;have q1':arr[i]? =some v:=by grind
   exact⟨v,q2,(by simp_all [execOp,Instr.extract])⟩
  grind
 case call c=>
  split at hs
  ·rename_i b afx;unfold QT at hs ⊢;split at hs
   ·rename_i x t hxs hts;have ea:c.args= #[x]:=by grind
    have et:c.argTypes= #[t]:=by grind
    obtain⟨v,q1,q2⟩:=oK (P:=P) (ty:=o.type) h (h.arg hg hs.1) hs.2;refine⟨v,q1,fun w' _=>?_⟩;simp_all [execOp,resolve,invoke,builtin]
   ·rename_i xs ts hxs;obtain⟨v,q1,q2⟩:=oN (P:=P) (ts:=c.argTypes) (ty:=o.type) (us:=c.args.map a.eval) (by simpa using h.args hg hs.1) hs.2;exact⟨v,q1,(by simp_all [execOp,resolve,invoke,builtin])⟩
   ·obtain⟨v,q1,q2⟩:=oO (P:=P) (ts:=c.argTypes) (ty:=o.type) (us:=c.args.map a.eval) (by simpa using h.args hg hs.1) hs.2;exact⟨v,q1,(by simp_all [execOp,resolve,invoke,builtin])⟩
   grind
  grind
end Go.PL
namespace Go.PL
open Go Go.RowKit
def Ia (id:Ak) (c:C):C:=if c.s_ id then .any else c
def Fa (id:Ak) (v:V):V:=if v.s_ id then .undef else v
def Ax.kill (id:Ak) (e:Ax):Ax:=match e with
 | ⟨i,r,cs,true⟩=>⟨i,r,cs,true⟩
 | ⟨i,r,cs,false⟩=>⟨i,r,cs.map (Ia id),false⟩
theorem Ax.P_ (id:Ak) (e:Ax):(e.kill id).id =e.id:=by obtain⟨i,r,cs,_ | _⟩:=e<;>rfl
theorem Ax.ac8 (id:Ak) (e:Ax):(e.kill id).row =e.row:=by obtain⟨i,r,cs,_ | _⟩:=e<;>rfl
def St.kill (st:St) (id:Ak):St:={tm:=st.tm.map (Fa id),so:=(st.so.filter (fun e=>e.id != id&& !(Dh id&&Fj e.id))).map (Ax.kill id),gh:=st.gh.map (Fa id),pre:=st.pre}
def We (e:Ax) (l:List Ax):List Ax:=match Dh e.id||Fj e.id with
 | true=>l
 | false=>e::l
def St.new (st:St) (e:Ax):St:={tm:=(st.kill e.id).tm,so:=We (e.kill e.id) (st.kill e.id).so,gh:=(st.kill e.id).gh,pre:=st.pre}
theorem Jo {e x:Ax} {l:List Ax} (h:x∈We e l):x=e/\Dh e.id=false/\Fj e.id=false\/x∈l:=by grind [We]
def Cb (F:Fr) (G:AG) (id:Ak) (b:Option Nat) (v:Option Value):AG where
 p_:=fun i=>if i=id then b else G.p_ i
 own:=fun i=>if i=id then v else G.own i
 wr:=fun x=>F.av x\/ ∃ i,(if i=id then b else G.p_ i)=some x
theorem tw (id:Ak) (c:C):(Ia id c).s_ id=false:=by grind [Ia,C.s_]
theorem UB (id:Ak) (v:V):(Fa id v).s_ id=false:=by grind [Fa,V.s_]
theorem UC (id:Ak): ∀ cs:List C,BS id (cs.map (Ia id))=false
 | []=>by simp [BS]
 | c::cs=>by simp [BS,tw,UC id cs]
theorem tx {w:World} {G:AG} {id:Ak} {c:C} {v:Value} (h:Ah w G c v):Ah w G (Ia id c) v:=by
 unfold Ia;split
 ·simp only [Ah];exact h.one
 ·exact h
theorem UD {w:World} {G:AG} {id:Ak}: ∀ {cs:List C} {vs:List Value},Al w G cs vs->Al w G (cs.map (Ia id)) vs
 | [],[],_=>by simp [Al]
 | [],_::_,h=>by grind
 | _::_,[],h=>by simp [Al]at h
 | c::cs,v::vs,h=>by simp only [Al]at h;simp only [map_cons,Al];exact⟨tx h.1,UD h.2⟩
theorem Wf {w:World} {G:AG} {id:Ak} {cs:List C} {b o:Nat} (h:An w G cs b o):An w G (cs.map (Ia id)) b o:=by obtain⟨vs,h1,h2⟩:=h.list;exact An.aaA (UD h1) h2
theorem UE {w:World} {G:AG} {id:Ak} {x:V} {v:Value} (h:Ae w G x v):Ae w G (Fa id x) v:=by grind [Fa,Ae]
theorem QU {w:World} {G:AG} {id:Ak}: ∀ {xs:List V} {vs:List Value},Aq w G xs vs->Aq w G (xs.map (Fa id)) vs
 | [],_,h=>by grind
 | x::xs,vs,h=>by simp only [Aq]at h;obtain⟨v,r,e,h1,h2⟩:=h;simp only [map_cons,Aq];exact⟨v,r,e,UE h1,QU h2⟩
theorem QV (id:Ak): ∀ xs:List V,Ls id (xs.map (Fa id))=false
 | []=>by simp [Ls]
 | x::xs=>by simp [Ls,UB,QV id xs]
theorem eQ {w:World} {G:AG} {id:Ak} {e:Ax} (h:Be w G e):Be w G (e.kill id):=by
 obtain⟨i,r,cs,pu⟩:=e;cases pu with
 | true=>exact h
 | false=>
 unfold Be at *;simp only [Ax.kill];simp only at h;split at h
 ·obtain⟨b,h1,h2⟩:=h;refine⟨b,h1,?_⟩;rcases h2 with ⟨kv,es,rfl,h2⟩ | ⟨T,cur,h2,h3,h4⟩
  ·exact .inl ⟨kv,es,by simp [Ia,C.s_],h2⟩
  ·exact .inr ⟨T,cur,h2,by simpa using h3,Wf h4⟩
 ·obtain⟨hl,v,h1,h2⟩:=h;refine⟨by grind,v,h1,?_⟩;rcases h2 with h2 | ⟨b,cap,cur,e1,e2,e3,e4,e5,e6,e7⟩
  ·grind
  ·exact .inr ⟨b,cap,cur,e1,e2,e3,e4,e5,e6,Wf e7⟩
theorem PJ {id:Ak} {e:Ax} (h:e.pu=true->Ap e.cs=true):(e.kill id).pu =true->Ap (e.kill id).cs =true:=by
 obtain⟨i,r,cs,pu⟩:=e;cases pu with
 | true=>exact h
 | false=>intro hq;cases hq
theorem kO {id:Ak} {e:Ax} (h:e.pu=true->Ap e.cs=true):BS id (e.kill id).cs =false:=by
 obtain⟨i,r,cs,pu⟩:=e;cases pu with
 | true=>exact AQ id cs (h rfl)
 | false=>exact UC id cs
theorem CM {w w':World} {G G':AG} (hk:Cl G G' w w') {e:Ax} (ha:KO (fun id=>BS id e.cs=true) G G') (hid:G'.p_ e.id=G.p_ e.id/\G'.own e.id=G.own e.id)
 (hb: ∀ b,G.p_ e.id=some b->w'.heap[b]? =w.heap[b]?) (h:Be w G e):Be w' G' e:=by
 unfold Be at *;split at h
 ·obtain⟨b,h1,h2⟩:=h;refine⟨b,by grind,?_⟩;rcases h2 with ⟨kv,es,h2,h3,h4⟩ | ⟨T,cur,h2,h3,h4⟩
  ·exact .inl ⟨kv,es,h2,by rw [hb b h1];exact h3,h4⟩
  ·exact .inr ⟨T,cur,by rw [hb b h1];exact h2,h3,An.mono hk _ _ _ ha (fun o=>Z_ (hb b h1) o) h4⟩
 ·obtain⟨hl,v,h1,h2⟩:=h;refine⟨hl,v,by grind,?_⟩;rcases h2 with ⟨p,e1,e2,e3⟩ | ⟨b,cap,cur,e1,e2,e3,e4,e5,e6,e7⟩
  ·grind
  ·exact .inr ⟨b,cap,cur,e1,by grind,by grind,e4,e5,e6,(by grind [An.mono,Z_])⟩
theorem Fz.mono {w w':World} {G G':AG} (hk:Cl G G' w w') {e:Ax} (hid:G'.p_ e.id=G.p_ e.id/\G'.own e.id=G.own e.id) (hmk: ∀ k,G'.p_ (B9 k e.id)=G.p_ (B9 k e.id)/\G'.own (B9 k e.id)=G.own (B9 k e.id))
 (hb: ∀ b,G.p_ e.id=some b->w'.heap[b]? =w.heap[b]?) (hbm: ∀ k b,G.p_ (B9 k e.id)=some b->w'.heap[b]? =w.heap[b]?) (h:Fz w G e):Fz w' G' e:=fun k E n len cs q=>by
 obtain⟨h1,h2,b,v,h3,h4,h5⟩:=h k E n len cs q;refine⟨h1,CM hk (e:=⟨B9 k e.id,some (E,n,len),cs,true⟩) (fun i hi=>absurd (show BS i cs=true from hi) (by rw [AQ i cs h1];simp)) (hmk k) (hbm k) h2,b,v,by grind,?_,by grind⟩;grind [Z_]
theorem BA.mono {w w':World} {G G':AG} (hk:Cl G G' w w') {e:Ax} (hid:G'.p_ e.id=G.p_ e.id/\G'.own e.id=G.own e.id) (hmk:Fj e.id=true-> ∀ k,G'.p_ (B9 k e.id)=G.p_ (B9 k e.id)/\G'.own (B9 k e.id)=G.own (B9 k e.id))
 (hb: ∀ b,G.p_ e.id=some b->w'.heap[b]? =w.heap[b]?) (hbm:Fj e.id=true-> ∀ k b,G.p_ (B9 k e.id)=some b->w'.heap[b]? =w.heap[b]?) (h:BA w G e):BA w' G' e:=
 ⟨h.1,fun hd=>⟨(h.2 hd).1,(h.2 hd).2.1,(h.2 hd).2.2.mono hk hid (hmk hd) hb (hbm hd)⟩⟩
theorem BA.kill {w:World} {G:AG} {e:Ax} {id:Ak} (h:BA w G e):BA w G (e.kill id):=by
 obtain⟨i,r,cs,pu⟩:=e;cases pu with
 | true=>exact h
 | false=>exact⟨h.1,fun hd=>absurd (h.2 hd).1 (by simp)⟩
theorem BA.an5 {w:World} {G:AG} {e:Ax} (h1:Dh e.id=false) (h2:Fj e.id=false):BA w G e:=⟨h1,fun hd=>by rw [h2]at hd;cases hd⟩
theorem FS {st:St} {f:V->V} (hf:f .undef = .undef) (i:Nat):(st.tm.map f).getD i .undef =f (st.tm.getD i .undef):=by grind
structure Ov (w w':World):Prop where
 os:w'.os=w.os
 tape:w'.tape=w.tape
 output:w'.output=w.output
theorem R.rename {F:Fr} {st:St} {a:Act} {w w':World} {G:AG} (h:R F st a w G) (id:Ak) (nb:Option Nat) (nv:Option Value)
 (ho:Ov w w') (hs:w.heap.size<=w'.heap.size)
 (am7: ∀ b,b<F.w0.heap.size-> ¬F.old b->w'.heap[b]? =w.heap[b]?)
 (hn: ∀ b,nb=some b->(w.heap.size<=b\/G.p_ id=some b)/\b<w'.heap.size) (a_:St)
 (htm:a_.tm.length=st.tm.length) (hsl: ∀ i,Ae w' (Cb F G id nb nv) (a_.tm.getD i .undef) (a.tmps.getD i Go.undef))
 (hgh:Aq w' (Cb F G id nb nv) a_.gh F.gv) (hpu: ∀ e∈a_.so,e.pu=true->Ap e.cs=true) (hso: ∀ e∈a_.so,Be w' (Cb F G id nb nv) e) (hdp: ∀ e∈a_.so,BA w' (Cb F G id nb nv) e) (hnd:(a_.so.map (·.id)).Nodup):R F a_ a w' (Cb F G id nb nv) where
 dfr:=h.dfr
 size:=by rw [htm];exact h.size
 z_:=hsl
 I_:=hgh
 B_:=hpu
 store:=hso
 deep:=hdp
 nodup:=hnd
 inj:=by
  intro i j b hi hj;simp only [Cb]at hi hj;split at hi<;>split at hj
  ·simp_all
  ·rename_i q1 q2;rcases (hn b hi).1 with q | q
   ·exact absurd (h.lt j b hj) (by omega)
   ·exact absurd (h.inj j id b hj q) q2
  ·rename_i q1 q2;rcases (hn b hj).1 with q | q
   ·exact absurd (h.lt i b hi) (by omega)
   ·exact absurd (h.inj i id b hi q) q1
  ·exact h.inj i j b hi hj
 lt:=by
  intro i b hi;simp only [Cb]at hi;split at hi
  ·grind
  ·exact lt_of_lt_of_le (h.lt i b hi) hs
 new:=by
  intro i b hi;simp only [Cb]at hi;split at hi
  ·rcases (hn b hi).1 with q | q
   ·grind
   ·exact h.new id b q
  ·exact h.new i b hi
 wr:=fun b=>Iff.rfl
 aaS:=h.aaS
 inv:=h.inv
 aaj:=h.aaj
 os:=ho.os.trans h.os
 tape:=ho.tape.trans h.tape
 output:=ho.output.trans h.output
 x_:=le_trans h.x_ hs
 ext:=fun b hb hold=>(am7 b hb hold).trans (h.ext b hb hold)
theorem R.keeps {F:Fr} {st:St} {a:Act} {w w':World} {G:AG} (h:R F st a w G) (id:Ak) (nb:Option Nat) (nv:Option Value)
 (hs:w.heap.size<=w'.heap.size) (abn: ∀ b,b<w.heap.size->(G.p_ id ≠ some b)->w'.heap[b]? =w.heap[b]?)
 (hn: ∀ b,nb=some b->w.heap.size<=b\/(G.p_ id=some b/\Cg w w' b)):Cl G (Cb F G id nb nv) w w' where
 size:=hs
 block:=fun b hb hw=>abn b hb (fun he=>hw ((h.wr b).2 (.inr ⟨id,he⟩)))
 wr:=by intro b hb hw;simp only [Cb]at hw;rw [h.wr];grind
 ty:=by
  intro i b h1 h2;have hb:=h.lt i b h1;simp only [Cb]at h2;split at h2
  ·grind
  ·rename_i hne;exact Cg.same (abn b hb (fun q=>hne (h.inj _ _ b h1 q)))
theorem Dq {F:Fr} {G:AG} {id:Ak} {nb:Option Nat} {nv:Option Value} {S:Ak->Prop} (hS: ∀ i,S i->i ≠ id):KO S G (Cb F G id nb nv):=
 fun i hi=>by simp [Cb,hS i hi]
theorem R.set {F:Fr} {st:St} {a:Act} {w w':World} {G:AG} (h:R F st a w G) (e:Ax) (nb:Option Nat) (nv:Option Value)
 (ho:Ov w w') (hs:w.heap.size<=w'.heap.size) (abn: ∀ b,b<w.heap.size->(G.p_ e.id ≠ some b)->w'.heap[b]? =w.heap[b]?)
 (am7: ∀ b,b<F.w0.heap.size-> ¬F.old b->w'.heap[b]? =w.heap[b]?)
 (hn: ∀ b,nb=some b->(w.heap.size<=b\/(G.p_ e.id=some b/\Cg w w' b))/\b<w'.heap.size) (hp:e.pu=true->Ap e.cs=true) (he:Be w' (Cb F G e.id nb nv) (e.kill e.id)):R F (st.new e) a w' (Cb F G e.id nb nv):=by
 have hk:=h.keeps e.id nb nv hs abn (by grind);refine h.rename e.id nb nv ho hs am7 (by grind) (st.new e) (by simp [St.new,St.kill]) ?_ ?_ ?_ ?_ ?_ ?_
 ·intro i;simp only [St.new,St.kill];rw [FS (by simp [Fa,V.s_])];exact Ae.mono hk _ _ (by grind [Dq,UB]) (UE (h.z_ i))
 ·simp only [St.new,St.kill];exact Aq.mono hk _ _ (by grind [Dq,QV]) (QU h.I_)
 ·intro e' he';simp only [St.new,St.kill]at he';rcases Jo he' with ⟨rfl,_⟩ | he'
  ·exact PJ hp
  ·simp only [mem_map,mem_filter]at he';obtain⟨d,⟨hd,hne⟩,rfl⟩:=he';exact PJ (h.B_ d hd)
 ·intro e' he';simp only [St.new,St.kill]at he';rcases Jo he' with ⟨rfl,_⟩ | he'
  ·exact he
  ·simp only [mem_map,mem_filter,and_eq_true]at he';obtain⟨d,⟨hd,hne,_⟩,rfl⟩:=he';have adq:d.id ≠ e.id:=by grind
   refine CM hk (Dq (fun i hi he'=>by subst he';rw [kO (h.B_ d hd)]at hi;cases hi)) (by grind [Cb,Ax.P_]) ?_ (eQ (h.store d hd));intro b hb;rw [Ax.P_]at hb;exact abn b (h.lt _ b hb) (fun q=>adq (h.inj _ _ b hb q))
 ·intro e' he';simp only [St.new,St.kill]at he';rcases Jo he' with ⟨rfl,h1,h2⟩ | he'
  ·exact BA.an5 h1 h2
  ·simp only [mem_map,mem_filter,and_eq_true]at he';obtain⟨d,⟨hd,hne,hmd⟩,rfl⟩:=he';have adq:d.id ≠ e.id:=by grind
   have hmk:Fj (d.kill e.id).id =true-> ∀ k,B9 k (d.kill e.id).id ≠ e.id:=by grind [Ax.P_,kJ]
   refine BA.mono hk (by grind [Cb,Ax.P_]) (by grind [Cb]) ?_ (fun hq k b hb=>abn b (h.lt _ b hb) (fun q=>hmk hq k (h.inj _ _ b hb q))) (h.deep d hd).kill;intro b hb;rw [Ax.P_]at hb;exact abn b (h.lt _ b hb) (fun q=>adq (h.inj _ _ b hb q))
 ·have afT:List.Sublist (((st.new e).so.map (·.id))) (e.id::((st.so.filter (fun d=>d.id != e.id&& !(Dh e.id&&Fj d.id))).map (·.id))):=by
   simp only [St.new,St.kill,We];split
   all_goals simp_all [Function.comp_def,Ax.P_]
  refine List.Sublist.nodup afT (List.nodup_cons.2 ⟨by grind,?_⟩);exact List.Sublist.nodup (by grind [List.filter_sublist]) h.nodup
theorem R.put {F:Fr} {st:St} {a:Act} {w:World} {G:AG} (h:R F st a w G) {d:Option Nat} {x:V} {v:Value} (hx:Ae w G x v):R F (st.put d x) (a.put d v) w G:=by
 cases d with
 | none=>exact h
 | some d=>
   exact {
    dfr:=h.dfr
    size:=by simp [St.put,Act.put,h.size]
    z_:=by
     intro i;simp only [St.put,Act.put];by_cases hi:i=d
     ·subst hi;by_cases hl:i<st.tm.length
      ·simp [List.getD_eq_getElem?_getD,hl,h.size,hx]
      grind [Ae]
     ·have h1:(st.tm.set d x).getD i .undef =st.tm.getD i .undef :=by grind
      have h2:(a.tmps.setIfInBounds d v).getD i Go.undef=a.tmps.getD i Go.undef:=by simp_all [Ne.symm]
      rw [h1,h2];exact h.z_ i
    I_:=by simpa [St.put] using h.I_
    store:=h.store,deep:=h.deep,B_:=h.B_,nodup:=h.nodup,inj:=h.inj,lt:=h.lt,new:=h.new,wr:=h.wr,aaS:=h.aaS,inv:=h.inv,aaj:=h.aaj,os:=h.os,tape:=h.tape,output:=h.output,x_:=h.x_,ext:=h.ext}
theorem R.same {F:Fr} {st:St} {a:Act} {w w':World} {G:AG} (h:R F st a w G) (ho:Ov w w') (hs:CX w w'):R F st a w' G:=by
 have hk:Cl G G w w':=⟨hs.size,fun b hb _=>hs.block b hb,fun b _ h=>h,fun i b h1 _=>Cg.same (hs.block b (h.lt i b h1))⟩;exact {
  dfr:=h.dfr,size:=h.size
  z_:=fun i=>Ae.mono hk _ _ (fun _ _=>⟨rfl,rfl⟩) (h.z_ i)
  I_:=Aq.mono hk _ _ (fun _ _=>⟨rfl,rfl⟩) h.I_
  store:=fun e he=>CM hk (fun _ _=>⟨rfl,rfl⟩) ⟨rfl,rfl⟩ (fun b hb=>hs.block b (h.lt _ b hb)) (h.store e he)
  deep:=fun e he=>BA.mono hk ⟨rfl,rfl⟩ (by grind) (fun b hb=>hs.block b (h.lt _ b hb)) (fun _ k b hb=>hs.block b (h.lt _ b hb)) (h.deep e he)
  B_:=h.B_
  nodup:=h.nodup,inj:=h.inj
  lt:=fun i b hb=>lt_of_lt_of_le (h.lt i b hb) hs.size
  new:=h.new,wr:=h.wr,aaS:=h.aaS,inv:=h.inv,aaj:=h.aaj
  os:=ho.os.trans h.os,tape:=ho.tape.trans h.tape,output:=ho.output.trans h.output
  x_:=le_trans h.x_ hs.size
  ext:=fun b hb hold=>(hs.block b (lt_of_lt_of_le hb h.x_)).trans (h.ext b hb hold)}
end Go.PL
namespace Go.PL
open Go Go.RowKit
theorem zu {w:World} {o:Obj} {b:Nat} (h:b<w.heap.size):(w.heap.push o)[b]? =w.heap[b]? :=by grind
theorem JJ (w:World) (o:Obj):(w.alloc o).heap =w.heap.push o:=rfl
theorem KV (w:World) (o:Obj):Ov w (w.alloc o):=⟨rfl,rfl,rfl⟩
theorem JK (w:World) (o:Obj):CX w (w.alloc o):=⟨by simp [JJ],(by grind [JJ])⟩
theorem HN {F:Fr} {st:St} {a:Act} {w w':World} {G:AG} (h:R F st a w G) {id:Ak} {nb:Option Nat} {nv:Option Value} (hk:Cl G (Cb F G id nb nv) w w')
 {cs:List C} {vs:List Value} {row:Option (TypeId×Nat×Nat)} {pu:Bool} (hp:pu=true->Ap cs=true) (hr:Al w G cs vs):Al w' (Cb F G id nb nv) (Ax.kill id ⟨id,row,cs,pu⟩).cs vs:=by
 cases pu with
 | true=>exact Al.mono hk _ _ (Dq (fun i hi he'=>by subst he';have:=AQ i cs (hp rfl);grind [Ax.kill])) hr
 | false=>grind [Al.mono,Dq,Ax.kill,UC,UD]
theorem Ow {id:Ak} {row:Option (TypeId×Nat×Nat)} {cs:List C} {pu:Bool}:(Ax.kill id ⟨id,row,cs,pu⟩).cs.length =cs.length:=by cases pu<;>simp [Ax.kill]
theorem kP {w:World} {G:AG} {e:Ax} (IN:e.row=none) (h: ∃ b T cur,G.p_ e.id=some b/\w.heap[b]? =some (.cells cur T (0,0))/\cur.size=e.cs.length/\An w G e.cs b 0):Be w G e:=by unfold Be;rw [IN];obtain⟨b,T,cur,h1,h2⟩:=h;exact⟨b,h1, .inr ⟨T,cur,h2⟩⟩
theorem JL {w:World} {G:AG} {e:Ax} {E n len:Nat} (IN:e.row=some (E,n,len)) (h:e.cs.length=len*n/\ ∃ v,G.own e.id=some v/\
 ((∃ p,v= .slice p 0 0/\len=0/\G.p_ e.id=none)\/
  ∃ b cap cur,v= .slice (some ⟨b,0,none⟩) len cap/\G.p_ e.id=some b/\w.heap[b]? =some (.cells cur E (0,0))/\len<=cap/\cap<=maxLen/\cur.size=cap*n/\An w G e.cs b 0)):Be w G e:=by
 grind [Be]
theorem Qv (w:World) (cur:Array Value) (T:TypeId):(w.alloc (.cells cur T)).rangeAt w.heap.size 0 cur.toList:=by intro j v hv;simp_all
theorem R.box {F:Fr} {st:St} {a:Act} {w:World} {G:AG} (h:R F st a w G) (id:Ak) (T:TypeId) (cs:List C) (cur:Array Value) (hr:Al w G cs cur.toList) (pu:Bool) (hp:pu=true->Ap cs=true):
 R F (st.new ⟨id,none,cs,pu⟩) a (w.alloc (.cells cur T)) (Cb F G id (some w.heap.size) none):=by
 have ad1:=JK w (.cells cur T);refine h.set ⟨id,none,cs,pu⟩ (some w.heap.size) none (KV _ _) ad1.size (fun b hb _=>ad1.block b hb) (fun b hb _=>ad1.block b (lt_of_lt_of_le hb h.x_)) ?_ hp ?_
 ·simp_all
 ·refine kP (Ax.ac8 _ _) ⟨w.heap.size,T,cur,by simp [Cb,Ax.P_],by simp [JJ],by rw [Ow];simpa using hr.length.symm,?_⟩;exact An.aaA (HN h (h.keeps id _ _ ad1.size (fun b hb _=>ad1.block b hb) (by grind)) hp hr) (Qv w cur T)
theorem R.row {F:Fr} {st:St} {a:Act} {w:World} {G:AG} (h:R F st a w G) (id:Ak) (T n len cap:Nat) (cs:List C) (cur:Array Value) (vs:List Value) (hr:Al w G cs vs) (hp:cur.toList.take vs.length=vs)
 (hl:cs.length=len*n) (hc:cur.size=cap*n) (hlc:len<=cap) (hm:cap<=maxLen) (pu:Bool) (hp':pu=true->Ap cs=true):
 R F (st.new ⟨id,some (T,n,len),cs,pu⟩) a (w.alloc (.cells cur T)) (Cb F G id (some w.heap.size) (some (.slice (some ⟨w.heap.size,0,none⟩) len cap))):=by
 have ad1:=JK w (.cells cur T);refine h.set ⟨id,some (T,n,len),cs,pu⟩ (some w.heap.size) _ (KV _ _) ad1.size (fun b hb _=>ad1.block b hb) (fun b hb _=>ad1.block b (lt_of_lt_of_le hb h.x_)) ?_ hp' ?_
 ·simp_all
 ·refine JL (Ax.ac8 _ _) ⟨by rw [Ow];exact hl,_,by simp_all [Cb,Ax.P_], .inr ⟨w.heap.size,cap,cur,rfl,by simp [Cb,Ax.P_],by simp [JJ],hlc,hm,hc,?_⟩⟩;refine An.aaA (HN h (h.keeps id _ _ ad1.size (fun b hb _=>ad1.block b hb) (by grind)) hp' hr) ?_;intro j v hv;refine Qv w cur T j v ?_;grind
theorem R.alb {F:Fr} {st:St} {a:Act} {w:World} {G:AG} (h:R F st a w G) (id:Ak) (T n:Nat) (p:Option Addr):
 R F (st.new ⟨id,some (T,n,0),[],true⟩) a w (Cb F G id none (some (.slice p 0 0))):=by
 refine h.set ⟨id,some (T,n,0),[],true⟩ none _ ⟨rfl,rfl,rfl⟩ (le_refl _) (fun _ _ _=>rfl) (fun _ _ _=>rfl) (by grind) (fun _=>rfl) ?_;simp only [Be,Ax.kill];exact⟨by simp, .slice p 0 0,by simp [Cb], .inl ⟨p,rfl,trivial,by simp [Cb]⟩⟩
theorem R.amD {F:Fr} {st:St} {a:Act} {w:World} {G:AG} (h:R F st a w G) (id:Ak) (T n:Nat):
 R F (st.new ⟨id,some (T,n,0),[],true⟩) a w (Cb F G id none (some (.slice none 0 0))):=h.alb id T n none
def V.cells:V->Option (List C)
 | .c x=>some [x]
 | .agg cs=>some cs
 | _=>none
theorem JM {w:World} {G:AG} {x:V} {v:Value} {cs:List C} (h:Ae w G x v) (hc:x.cells=some cs):Al w G cs v.cells.toList:=by
 unfold V.cells at hc;split at hc
 ·injection hc with hc;subst hc;simp only [Ae]at h;have:=h.one;have e:v.cells= #[v]:=by cases v<;>simp_all [Value.cells,Value.oneCell']
  grind [Al]
 ·injection hc with hc;subst hc;simp only [Ae]at h;obtain⟨arr,rfl,hr⟩:=h;grind [Value.cells]
 ·cases hc
def Qw (P:Program) (t:TypeId):Option (List C):=
 match P.info? t with
 | some i=>match i.zero with
   | some z=>D3 z.cells.toList
   | none=>none
 | none=>none
theorem JN {P:Program} {t:TypeId} {cs:List C} (h:Qw P t=some cs): ∃ i z,P.info? t=some i/\i.zero=some z/\D3 z.cells.toList=some cs:=by grind [Qw]
theorem adN {P:Program} {t:TypeId} {i:TypeInfo} {z:Value} (hi:P.info? t=some i) (hz:i.zero=some z) (w:World):(zeroValue t).run P w= .ok z w:=by simp_all [zeroValue,typeInfo]
def JO (place:Nat->Option (Nat×Nat)) (cells:List C):List (Nat×V)->Option (List C)
 | []=>some cells
 | (i,v)::rest=>match place i,v.cells with
   | some (off,size),some cs=>if cs.length=size/\off+size<=cells.length then JO place (cells.take off++cs++cells.drop (off+size)) rest else none
   | _,_=>none
def UF (w:World) (G:AG):List (Nat×V)->List (Nat×Value)->Prop
 | [],[]=>True
 | (i,x)::xs,(j,v)::vs=>i=j/\Ae w G x v/\UF w G xs vs
 | _,_=>False
theorem tz (vs:List Value) (off:Nat): ∀ (k:Nat) (cs:Array Value),off+k+vs.length<=cs.size->
 ((vs.zipIdx k).foldl (fun cs (c,j)=>cs.setIfInBounds (off+j) c) cs).toList =cs.toList.take (off+k)++vs++cs.toList.drop (off+k+vs.length):=by
 induction vs with
 | nil=>simp_all
 | cons v vs ih=>
   intro k cs hk;simp only [List.zipIdx_cons,foldl_cons];simp only [List.length_cons]at hk ⊢;rw [ih (k+1) _ (by simp;omega)];have hlt:off+k<cs.toList.length:=by simp;omega
   rw [Array.toList_setIfInBounds,List.set_eq_take_append_cons_drop,if_pos hlt];have e1:(cs.toList.take (off+k)).length =off+k:=by grind
   rw [List.take_append,List.drop_append,e1];rw [show off+(k+1) - (off+k)=1 by omega,show off+(k+1)+vs.length - (off+k)=vs.length+1 by omega];rw [List.take_take,show min (off+(k+1)) (off+k)=off+k by omega];have e3:List.drop (off+(k+1)+vs.length) (List.take (off+k) cs.toList)=[]:=(by grind [List.drop_of_length_le]);grind [drop_drop]
theorem MK {w:World} {G:AG} {place:Nat->Option (Nat×Nat)}: ∀ {ps:List (Nat×V)} {qs:List (Nat×Value)} {cells out:List C} {arr:Array Value},
 JO place cells ps=some out->UF w G ps qs->Al w G cells arr.toList-> ∃ abo,Instr.fill place arr qs=some abo/\Al w G out abo.toList
 | [],[],cells,out,arr,h,_,hr=>by simp only [JO,injEq]at h;subst h;exact⟨arr,rfl,hr⟩
 | [],_::_,_,_,_,_,h,_=>by simp [UF]at h
 | _::_,[],_,_,_,_,h,_=>by simp [UF]at h
 | (i,x)::ps,(j,v)::qs,cells,out,arr,h,hp,hr=>by
   simp only [UF]at hp;obtain⟨rfl,hv,hp⟩:=hp;simp only [JO]at h;split at h
   ·rename_i off size cs hpl hcs;split at h
    ·rename_i hb;have hvc:=JM hv hcs;have hl:=hr.length;have hlv:=hvc.length;have e:=tz v.cells.toList off 0 arr (by simp at hl hlv ⊢;omega);simp only [Instr.fill,hpl];rw [if_neg (by simp at hl hlv ⊢;omega)];refine MK h hp ?_;rw [<-Array.foldl_toList,Array.toList_zipIdx,e];simp only [add_zero];have:v.cells.toList.length=size:=by grind
     rw [this];exact((hr.take off).append hvc).append (hr.drop (off+size))
    ·cases h
   ·cases h
end Go.PL
namespace Go.PL
open Go Go.RowKit
theorem BO {w:World} {b:Nat} {cur:Array Value} {T:TypeId} {fr:Nat×Nat} (h:w.heap[b]? =some (.cells cur T fr)) {us rest:List Value} (e:us++rest=cur.toList):w.rangeAt b 0 us:=by
 intro j v hv;have h2:cur.toList[j]? =some v:=by grind
 grind [World.cell?]
theorem HO {w:World} {b:Nat} {cur:Array Value} {T:TypeId} {fr:Nat×Nat} (h:w.heap[b]? =some (.cells cur T fr)) {us:List Value} (hr:w.rangeAt b 0 us):us++cur.toList.drop us.length=cur.toList:=by
 have:us=cur.toList.take us.length:=by
  apply List.ext_getElem?;intro j;by_cases hj:j<us.length
  ·have:=hr j us[j] (by simp [hj]);simp_all [World.cell?]
  grind
 grind [take_append_drop]
def St.acN (st:St) (id:Ak) (cs:List C) (q:Bool):St:={st with so:=st.so.map fun e=>if e.id==id then⟨e.id,e.row,cs,e.pu&&q⟩else e}
theorem R.stored {F:Fr} {st:St} {a:Act} {w:World} {G:AG} (h:R F st a w G) {id:Ak} {e:Ax} (he:st.look id=some e) {b:Nat} (hb:G.p_ id=some b) {off:Nat} {xs:List C} {vs:List Value}
 (hx:Al w G xs vs) (acn:off+xs.length<=e.cs.length):
 ∃ cur T,w.heap[b]? =some (.cells cur T (0,0))/\off+vs.length<=cur.size/\
   R F (st.acN id (e.cs.take off++xs++e.cs.drop (off+xs.length)) (Ap xs)) a (w.setRow b (cur.toList.take off++vs++cur.toList.drop (off+vs.length)).toArray) G:=by
 obtain⟨hm,hid⟩:=Bh he;obtain⟨cur,T,afw,hle,IN⟩:=(h.store e hm).row (Yu he) (by rw [hid];exact hb);obtain⟨us,h1,h2⟩:=IN.list;have hlx:=hx.length;have hlu:=h1.length;have amZ:=HO afw h2;refine⟨cur,T,afw,by omega,?_⟩;have hbl: ∀ k,k ≠ b->(w.setRow b (cur.toList.take off++vs++cur.toList.drop (off+vs.length)).toArray).heap[k]? =w.heap[k]? :=fun k hk=>setRow_other w b k _ hk;have aaF:=setRow_heap w b cur (cur.toList.take off++vs++cur.toList.drop (off+vs.length)).toArray T (0,0) afw;have hk:Cl G G w (w.setRow b (cur.toList.take off++vs++cur.toList.drop (off+vs.length)).toArray):=
  ⟨by simp,fun k _ hw=>hbl k (fun q=>hw ((h.wr k).2 (by grind))),fun _ _ q=>q,fun i k h1 _=>by
   by_cases hkb:k=b
   ·subst hkb;intro adr T' fz' hq;grind
   grind [Cg.same]⟩
 have ag4:(us.take off++vs++us.drop (off+vs.length))++cur.toList.drop us.length=(cur.toList.take off++vs++cur.toList.drop (off+vs.length)).toArray.toList :=by grind
 have ag6:=BO aaF ag4;have hl2:Al w G (e.cs.take off++xs++e.cs.drop (off+xs.length)) (us.take off++vs++us.drop (off+vs.length)):=by rw [hlx];exact((h1.take off).append hx).append (h1.drop _)
 have ac_:=An.aaA (Al.mono hk _ _ (fun _ _=>⟨rfl,rfl⟩) hl2) ag6;have hlen:(e.cs.take off++xs++e.cs.drop (off+xs.length)).length =e.cs.length:=by simp;omega
 have aqX:(cur.toList.take off++vs++cur.toList.drop (off+vs.length)).toArray.size =cur.size:=by simp;omega
 exact {
  dfr:=h.dfr,size:=h.size
  z_:=fun i=>Ae.mono hk _ _ (fun _ _=>⟨rfl,rfl⟩) (h.z_ i)
  I_:=Aq.mono hk _ _ (fun _ _=>⟨rfl,rfl⟩) h.I_
  store:=by
   intro e' he';simp only [St.acN,mem_map]at he';obtain⟨d,hd,rfl⟩:=he';split
   ·rename_i ag_;replace ag_:d.id=id:=by grind
    have:d=e:=by have hn:=h.nodup;have:=List.pairwise_map.1 hn;rcases mem_iff_getElem.1 hd with ⟨i,hi,rfl⟩;rcases mem_iff_getElem.1 hm with ⟨j,hj,rfl⟩;grind [List.pairwise_iff_getElem]
    subst this;have hE:=h.store d hd;unfold Be at hE ⊢;simp only;split at hE
    ·rename_i hrn;obtain⟨b',q1,hbx⟩:=hE;obtain⟨T',adr,q2,q3,q4⟩:=hbx.cells (Yu he hrn);rw [hid,hb]at q1;injection q1 with q1;subst q1;rw [afw]at q2;injection q2 with q2;injection q2 with q2a q2b;subst q2a q2b;exact⟨b,by grind, .inr ⟨T,_,aaF,by rw [aqX,hlen];exact q3,ac_⟩⟩
    ·obtain⟨hl,v,q1,q2⟩:=hE;refine⟨by grind,v,q1,?_⟩;rcases q2 with q2 | ⟨b',cap,adr,e1,e2,e3,e4,e5,e6,e7⟩
     ·grind
     ·rw [hid,hb]at e2;injection e2 with e2;subst e2;rw [afw]at e3;injection e3 with e3;injection e3 with e3a e3b;subst e3a e3b;exact .inr ⟨b,cap,_,e1,by grind,aaF,e4,e5,by grind,ac_⟩
   ·rename_i ag_;replace ag_: ¬d.id=id:=by grind
    exact CM hk (fun _ _=>⟨rfl,rfl⟩) ⟨rfl,rfl⟩ (fun k hk'=>hbl k (fun q=>ag_ (h.inj _ _ k hk' (by grind)))) (h.store d hd)
  deep:=by
   intro e' he';simp only [St.acN,mem_map]at he';obtain⟨d,hd,rfl⟩:=he';split
   ·rename_i ag_;replace ag_:d.id=id:=by grind
    exact BA.an5 (h.deep d hd).1 (by grind [FA])
   ·rename_i ag_;replace ag_: ¬d.id=id:=by grind
    refine BA.mono hk ⟨rfl,rfl⟩ (by grind) (fun k hk'=>hbl k (fun q=>ag_ (h.inj _ _ k hk' (by grind)))) (fun _ k b' hb'=>hbl b' (fun q=>?_)) (h.deep d hd);have h1:B9 k d.id=id:=h.inj _ _ b' hb' (by grind);have h2:=(h.deep e hm).1;rw [hid, <-h1]at h2;cases h2
  B_:=by
   intro e' he';simp only [St.acN,mem_map]at he';obtain⟨d,hd,rfl⟩:=he';split
   ·rename_i ag_;replace ag_:d.id=id:=by grind
    have:d=e:=by have hn:=h.nodup;have:=List.pairwise_map.1 hn;rcases mem_iff_getElem.1 hd with ⟨i,hi,rfl⟩;rcases mem_iff_getElem.1 hm with ⟨j,hj,rfl⟩;grind [List.pairwise_iff_getElem]
    subst this;intro hq;simp only [and_eq_true]at hq;simp only [B0,and_eq_true];exact⟨⟨MF _ (h.B_ d hd hq.1),hq.2⟩,MG _ (h.B_ d hd hq.1)⟩
   ·exact h.B_ d hd
  nodup:=by
   have:(st.acN id (e.cs.take off++xs++e.cs.drop (off+xs.length)) (Ap xs)).so.map (·.id)=st.so.map (·.id):=by simp only [St.acN,map_map];apply List.map_congr_left;grind
   rw [this];exact h.nodup
  inj:=h.inj
  lt:=fun i k hi=>by simpa using h.lt i k hi
  new:=h.new,wr:=h.wr,aaS:=h.aaS,inv:=h.inv,aaj:=h.aaj
  os:=by simpa using h.os
  tape:=by simpa using h.tape
  output:=by simpa using h.output
  x_:=by simpa using h.x_
  ext:=fun k hk' hold=>(hbl k (fun q=>by
   rcases h.new id b hb with q2 | q2
   all_goals grind)).trans (h.ext k hk' hold)}
theorem FT {w:World} {G:AG} {e:Ax} {E n len:Nat} (IN:e.row=some (E,n,len)) (h:Be w G e):
 ∃ v vs,G.own e.id=some v/\v.oneCell'=true/\Al w G e.cs vs/\((w.ownsRow 0 E n v len vs/\v.ownBlock=G.p_ e.id)\/ ∃ p,v= .slice (some p) 0 0/\len=0/\vs=[]/\G.p_ e.id=none):=by
 unfold Be at h;rw [IN]at h;obtain⟨hl,v,h1,h2⟩:=h;rcases h2 with ⟨p,rfl,h0,hb⟩ | ⟨b,cap,cur,rfl,e2,e3,e4,e5,e6,e7⟩
 ·have hcs:e.cs=[]:=by simp_all
  cases p with
  | none=>exact⟨_,[],h1,rfl,by rw [hcs];simp [Al], .inl ⟨⟨by rw [h0];simp, .inl ⟨rfl,h0⟩⟩,by rw [hb];rfl⟩⟩
  | some p=>exact⟨_,[],h1,rfl,by rw [hcs];simp [Al],(by grind)⟩
 ·obtain⟨us,q1,q2⟩:=e7.list;have hlu:=q1.length;have amZ:=HO e3 q2;refine⟨_,us,h1,rfl,q1, .inl ⟨⟨by omega, .inr ⟨b,cap,cur,rfl,zero_le _,e3,e4,e5,e6,?_⟩⟩,by rw [e2];rfl⟩⟩;grind
theorem R.ajw {F:Fr} {st:St} {a:Act} {w w':World} {G:AG} (h:R F st a w G) {id:Ak} {e:Ax} (he:st.look id=some e) {E n len m:Nat}
 {v v':Value} {xs us:List Value} {cs:List C} {q:Bool} (hq:q=true->Ap cs=true) (hob:v.ownBlock=G.p_ id) (h1:Al w G e.cs xs) (h2:Al w G cs us)
 (hold:w.ownsRow 0 E n v len xs) (aaF:w'.ownsRow 0 E n v' (len+m) (xs++us)) (hg:w.grownBy w' v.ownBlock) (hfr:v'.ownBlock=v.ownBlock\/ ∀ b,v'.ownBlock=some b->w.heap.size<=b):
 ∃ G',R F (st.new ⟨id,some (E,n,len+m),e.cs++cs,e.pu&&q⟩) a w' G'/\G'.own id=some v'/\v'.oneCell'=true:=by
 obtain⟨hm,hid⟩:=Bh he;have abn: ∀ b,b<w.heap.size->G.p_ id ≠ some b->w'.heap[b]? =w.heap[b]? :=fun b hb hne=>hg.block b hb (by grind);have hn: ∀ b,v'.ownBlock=some b->w.heap.size<=b\/(G.p_ id=some b/\Cg w w' b):=by
  intro b hb;rcases hfr with q | q
  ·refine .inr ⟨by grind,?_⟩;have hb2:v.ownBlock=some b:=by grind
   intro cur T fz hc;rcases aaF.2 with ⟨r,_⟩ | ⟨g,cap,adr,r,_,r2,_⟩
   ·rw [r]at hb;cases hb
   ·rw [r]at hb;simp only [Value.ownBlock,injEq]at hb;subst hb;rcases hold.2 with ⟨r3,_⟩ | ⟨g3,aud,aua,r3,_,r4,_⟩
    all_goals grind [Value.ownBlock]
  grind
 have hlt: ∀ b,v'.ownBlock=some b->b<w'.heap.size:=fun b hb=>(aaF.lt b hb).2;have acK:v'.oneCell'=true:=by rcases aaF.2 with ⟨q,_⟩ | ⟨g,cap,cur,q,_⟩<;>rw [q]<;>rfl
 refine⟨Cb F G id v'.ownBlock (some v'),?_,by simp [Cb],acK⟩;have hk:=h.keeps id v'.ownBlock (some v') hg.size abn hn;have hpq:(e.pu&&q)=true->Ap (e.cs++cs)=true:=fun hx=>by simp only [and_eq_true]at hx;rw [B0,h.B_ e hm hx.1,hq hx.2];rfl
 have atC:=HN (row:=some (E,n,len+m)) h hk hpq (h1.append h2);refine h.set ⟨id,some (E,n,len+m),e.cs++cs,e.pu&&q⟩ v'.ownBlock (some v') ⟨hg.os,hg.tape,hg.output⟩ hg.size abn ?_ (by grind) hpq ?_
 ·intro b hb apz;refine abn b (lt_of_lt_of_le hb h.x_) (fun q=>?_);rcases h.new id b q with q2 | q2
  all_goals grind
 ·have hl:=h1.length;have hl2:=h2.length;have hln:=aaF.1;refine JL (Ax.ac8 _ _) ⟨by grind [Ow],v',by simp [Cb,Ax.P_],?_⟩;rcases aaF.2 with ⟨q,h0⟩ | ⟨g,cap,cur,q,_,q2,q3,q4,q5,q6⟩
  ·simp_all [Cb,Value.ownBlock,Ax.P_]
  ·refine .inr ⟨g,cap,cur,q,by simp [Cb,q,Value.ownBlock,Ax.P_],q2,q3,q4,q5,?_⟩;grind [An.aaA,BO,take_append_drop]
theorem NR {P:Program} {w:World} (t ty e:TypeId) (i:TypeInfo) (z:Value) (size bytes:Nat) (ht:P.underlying t=some (.slice e)) (hi:P.info? e=some i) (hz:i.zero=some z)
 (x_:i.size=size) (hby:i.bytes=bytes) (hzs:z.cells.size=size) (hsz:0<size)
 (v:Value) (n:Nat) (xs:List Value) (aaz:w.ownsRow 0 e size v n xs)
 (a:Addr) (m c:Nat) (news:List Value) (hl:news.length=m*size) (aga: ∀ j u,news[j]? =some u->w.cell? (a.add j)=some u) (h1: ∀ u∈news,u.oneCell'=true)
 (h63:n+m<=maxLen) (ais:(n+m)*bytes<=140737488355328):
 ∃ v' w',(Builtin.append_ #[t,t] ty #[v, .slice (some a) m c]).run P w= .ok v' w'/\w'.ownsRow 0 e size v' (n+m) (xs++news)/\w.grownBy w' v.ownBlock/\
   (v'.ownBlock=v.ownBlock\/ ∀ b,v'.ownBlock=some b->w.heap.size<=b):=by
 subst x_ hby
 have hM:maxLen=9223372036854775807:=rfl;have hlen:(xs++news).length =(n+m)*i.size:=by rw [List.length_append,aaz.1,hl, <-add_mul]
 have grown: ∀ old,old<n+m-> ∀ row,
  (w.drew.alloc (.cells (xs.toArray++news.toArray++Builtin.zeroCells z.cells (grownCap w (n+m) old e - (n+m))) e)).ownsRow 0 e i.size
   (.slice (some ⟨w.heap.size,0,none⟩) (n+m) (grownCap w (n+m) old e)) (n+m) (xs++news)/\
  w.grownBy (w.drew.alloc (.cells (xs.toArray++news.toArray++Builtin.zeroCells z.cells (grownCap w (n+m) old e - (n+m))) e)) row:=by
  intro old ho row;have hge:=grownCap_ge w (n+m) old e;have hcm:grownCap w (n+m) old e<=maxLen:=grownCap_le_maxLen w (n+m) old e h63;refine⟨⟨hlen, .inr ⟨w.heap.size,_,_,rfl,zero_le _,heap_alloc_new w.drew _,hge,hcm,?_,?_⟩⟩,⟨rfl,rfl,rfl,by simp,fun k hk _=>heap_alloc_old w.drew _ hk⟩⟩
  ·simp only [Array.size_append,List.size_toArray,size_zeroCells,hzs,aaz.1,hl, <-add_mul];grind
  grind
 rcases aaz.2 with ⟨rfl,rfl⟩ | ⟨g,cap,cur,rfl,hbg,hg,hnc,hcm,hcs,ak0⟩
 ·have hx:xs=[]:=(by simp_all);subst hx;by_cases hm:m=0
  ·subst hm;have hn:news=[]:=(by grind);subst hn;refine⟨.slice none 0 0,w,?_,(by grind),⟨rfl,rfl,rfl,le_refl _,fun _ _ _=>rfl⟩, .inl rfl⟩;simp [Builtin.append_,run_underlying ht,sizeOf,typeInfo,hi,Builtin.lenOf,Builtin.firstCells,loadCells,loadCellsFrom]
  ·have hr:=run_append_nil (P:=P) w t ty e i z ht hi hz a m c news hl aga (by omega) (by omega) (by grind);have hgr:=grown 0 (by omega) (Value.ownBlock (.slice none 0 0));simp only [Nat.zero_add,List.nil_append,Array.empty_append]at hgr ⊢;grind [Value.ownBlock]
 ·by_cases ag5:n+m<=cap
  ·have alL:n*i.size+news.length<=cur.size:=by rw [hl,hcs, <-add_mul];simp_all [Nat.mul_le_mul_right]
   have hr:=run_append_room (P:=P) w t ty e i ht hi g n cap cur hg a m c news hl aga h1 ag5 alL;refine⟨_,_,hr,⟨hlen, .inr ⟨g,cap,_,rfl,hbg,setRow_heap w g cur _ e _ hg,ag5,hcm,?_,?_⟩⟩,⟨rfl,rfl,rfl,by simp,(by grind [setRow_other,Value.ownBlock])⟩, .inl rfl⟩
   all_goals grind
  ·have holds: ∀ j u,xs[j]? =some u->w.cell? ((⟨g,0,none⟩:Addr).add j)=some u:=aaz.cells (g:=g) rfl;have hr:=run_append_grow (P:=P) w t ty e i z ht hi hz ⟨g,0,none⟩ n cap xs aaz.1 holds a m c news hl aga (by omega) (by omega) (growslice_fits (by omega) ais);have hgr:=grown cap (by omega) (Value.ownBlock (.slice (some ⟨g,0,none⟩) n cap));grind [Value.ownBlock]
theorem R.al8 {F:Fr} {st:St} {a:Act} {w:World} {G:AG} (h:R F st a w G) {id:Ak} {e:Ax} {E n:Nat} {p:Addr} (pu:Bool) (hcs:e.cs=[]):
 ∃ G',R F (st.new ⟨id,some (E,n,0+0),e.cs++[],pu⟩) a w G'/\G'.own id=some (.slice (some p) 0 0):=by
 refine⟨Cb F G id none (some (.slice (some p) 0 0)),?_,by simp [Cb]⟩;rw [hcs];refine h.set ⟨id,some (E,n,0+0),[]++[],pu⟩ none _ ⟨rfl,rfl,rfl⟩ (le_refl _) (fun _ _ _=>rfl) (fun _ _ _=>rfl) (by grind) (fun _=>rfl) ?_;refine JL (Ax.ac8 _ _) ⟨by rw [Ow];simp,_,by simp_all [Cb,Ax.P_], .inl ⟨some p,rfl,rfl,by simp [Cb,Ax.P_]⟩⟩
theorem NS {P:Program} {w:World} (t ty e:TypeId) (i:TypeInfo) (z:Value) (size bytes:Nat) (ht:P.underlying t=some (.slice e)) (hi:P.info? e=some i) (hz:i.zero=some z)
 (x_:i.size=size) (hby:i.bytes=bytes) (hzs:z.cells.size=size) (hsz:0<size) (p:Addr)
 (a:Addr) (m c:Nat) (news:List Value) (hl:news.length=m*size) (aga: ∀ j u,news[j]? =some u->w.cell? (a.add j)=some u) (hm:0<m)
 (h63:m<=maxLen) (ais:m*bytes<=140737488355328):
 ∃ v' w',(Builtin.append_ #[t,t] ty #[.slice (some p) 0 0, .slice (some a) m c]).run P w= .ok v' w'/\w'.ownsRow 0 e size v' m news/\w.grownBy w' none/\
   ∀ b,v'.ownBlock=some b->w.heap.size<=b:=by
 subst x_ hby
 have hM:maxLen=9223372036854775807:=rfl;have hr:=run_append_grow (P:=P) w t ty e i z ht hi hz p 0 0 [] (by simp) (by grind) a m c news hl aga (by omega) (by omega) (by simp_all [growslice_fits]);have hge:=grownCap_ge w (0+m) 0 e;have hcm:grownCap w (0+m) 0 e<=maxLen:=grownCap_le_maxLen w (0+m) 0 e (by omega);refine⟨_,_,hr,⟨hl, .inr ⟨w.heap.size,_,_,by simp,zero_le _,heap_alloc_new w.drew _,by grind,hcm,?_,?_⟩⟩,⟨rfl,rfl,rfl,by simp,fun k hk _=>heap_alloc_old w.drew _ hk⟩,(by grind [Value.ownBlock])⟩
 ·simp only [Array.size_append,List.size_toArray,size_zeroCells,hzs,hl, <-add_mul,List.length_nil,Nat.zero_add]at hge ⊢;grind
 grind
end Go.PL
namespace Go.PL
open Go Go.RowKit
mutual
def V.pure:V->Bool
 | .c x=>x.pure
 | .agg cs=>Ap cs
 | .tup vs=>Ci vs
 | .g b v=> !b||v.pure
 | .undef =>true
def Ci:List V->Bool
 | []=>true
 | v::vs=>v.pure&&Ci vs
end
mutual
theorem PM (id:Ak): ∀ v:V,v.pure=true->v.s_ id=false
 | .c x,h=>by grind [V.s_,H7,V.pure]
 | .agg cs,h=>by grind [V.s_,AQ,V.pure]
 | .tup vs,h=>by simp only [V.s_];exact Y1 id vs (by simpa only [V.pure] using h)
 | .g b v,h=>by
   cases b with
   | false=>simp [V.s_]
   | true=>simp only [V.pure,Bool.not_true,Bool.false_or]at h;simp [V.s_,PM id v h]
 | .undef,_=>by simp [V.s_]
theorem Y1 (id:Ak): ∀ vs:List V,Ci vs=true->Ls id vs=false
 | [],_=>by simp [Ls]
 | v::vs,h=>by simp only [Ci,and_eq_true]at h;simp [Ls,PM id v h.1,Y1 id vs h.2]
end
def im (av:Nat->Prop):AG:=⟨fun _=>none,fun _=>none,av⟩
theorem Y2 {w:World} {av:Nat->Prop} {G:AG} (hG: ∀ b,b<w.heap.size->G.wr b->av b) {x:V} {v:Value} (hp:x.pure=true) (h:Ae w (im av) x v):Ae w G x v:=
 Ae.mono (G:=im av) (G':=G) ⟨le_refl _,fun _ _ _=>rfl,fun b hb hw=>hG b hb hw,fun _ _ _ _=>Cg.same rfl⟩ x v (fun id hid=>absurd (show x.s_ id=true from hid) (by rw [PM id x hp];simp)) h
theorem rA {w:World} {av:Nat->Prop} {G:AG} (hG: ∀ b,b<w.heap.size->av b->G.wr b) {x:V} {v:Value} (hp:x.pure=true) (h:Ae w G x v):Ae w (im av) x v:=
 Ae.mono (G:=G) (G':=im av) ⟨le_refl _,fun _ _ _=>rfl,fun b hb hw=>hG b hb hw,fun _ _ _ _=>Cg.same rfl⟩ x v (fun id hid=>absurd (show x.s_ id=true from hid) (by rw [PM id x hp];simp)) h
def KK (id:Ak) (len:Nat) (cs:List C):C->C
 | .h_ i=>if i=id then .sl len cs else .h_ i
 | .ptr i o=>if i=id then .any else .ptr i o
 | .bsl i o n=>if i=id then .any else .bsl i o n
 | .rsl i N o n=>if i=id then .any else .rsl i N o n
 | .bld i T=>if i=id then .any else .bld i T
 | .afN i=>if i=id then .any else .afN i
 | .clo f ds=>if BS id ds then .any else .clo f ds
 | .bmv f ds=>if BS id ds then .any else .bmv f ds
 | c=>c
mutual
def LS (id:Ak) (len:Nat) (cs:List C):V->V
 | .c x=> .c (KK id len cs x)
 | .agg ds=> .agg (ds.map (KK id len cs))
 | .tup vs=> .tup (NU id len cs vs)
 | .g b v=> .g b (LS id len cs v)
 | .undef => .undef
def NU (id:Ak) (len:Nat) (cs:List C):List V->List V
 | []=>[]
 | v::vs=>LS id len cs v::NU id len cs vs
end
def Ax.frz (id:Ak) (len:Nat) (cs:List C) (e:Ax):Ax:=match e with
 | ⟨i,r,ds,true⟩=>⟨i,r,ds,true⟩
 | ⟨i,r,ds,false⟩=>⟨i,r,ds.map (KK id len cs),false⟩
theorem Ax.ait (id:Ak) (len:Nat) (cs:List C) (e:Ax):(e.frz id len cs).id =e.id:=by obtain⟨i,r,cs,_ | _⟩:=e<;>rfl
theorem Ax.aq6 {id:Ak} {len:Nat} {cs:List C} {e:Ax} {kv:List (Int×Int)} (h:e.cs=[.mp kv]):(e.frz id len cs).cs =[.mp kv]:=by
 obtain⟨i,r,ds,_ | _⟩:=e
 ·simp only at h;subst h;rfl
 ·exact h
theorem Ax.aoK (id:Ak) (len:Nat) (cs:List C) (e:Ax):(e.frz id len cs).row =e.row:=by obtain⟨i,r,cs,_ | _⟩:=e<;>rfl
def St.freeze (st:St) (id:Ak):St:=
 match st.look id with
 | some e=>match e.row with
   | some (_,_,len)=>if !e.pu then st else
    {tm:=st.tm.map (LS id len e.cs),so:=(st.so.filter (fun d=>d.id != id)).map (Ax.frz id len e.cs),gh:=NU id len e.cs st.gh,pre:=st.pre}
   | none=>st
 | none=>st
section
variable {F:Fr} {w:World} {G:AG} {id:Ak} {len:Nat} {cs:List C}
structure Frz (F:Fr) (w:World) (G:AG) (id:Ak) (len:Nat) (cs:List C):Prop where
 own: ∀ v,G.own id=some v->Ah w (Cb F G id none none) (.sl len cs) v
 keeps:Cl G (Cb F G id none none) w w
theorem kQ (hf:Frz F w G id len cs) {c:C} {v:Value} (h:Ah w G c v):Ah w (Cb F G id none none) (KK id len cs c) v:=by
 have hm: ∀ d:C,d.s_ id=false->Ah w G d v->Ah w (Cb F G id none none) d v:=fun d hd hr=>
  Ah.mono hf.keeps d v (by grind [Dq]) hr
 cases c with
 | h_ i=>
   simp only [KK];split
   ·rename_i hi;subst hi;simp only [Ah]at h;exact hf.own v h.1
   grind [C.s_]
 | ptr i o=>
   simp only [KK];split
   ·simp only [Ah];exact h.one
   grind [C.s_]
 | bsl i o n=>
   simp only [KK];split
   ·simp only [Ah];exact h.one
   grind [C.s_]
 | rsl i N o n=>
   simp only [KK];split
   ·simp only [Ah];exact h.one
   grind [C.s_]
 | bld i T=>
   simp only [KK];split
   ·simp only [Ah];exact h.one
   grind [C.s_]
 | sl l ds=>exact hm (.sl l ds) (by simp [C.s_]) h
 | abO ds o=>exact hm (.abO ds o) (by simp [C.s_]) h
 | int k n=>exact hm (.int k n) (by simp [C.s_]) h
 | bool b=>exact hm (.bool b) (by simp [C.s_]) h
 | str s=>exact hm (.str s) (by simp [C.s_]) h
 | acg=>exact hm (.acg) (by simp [C.s_]) h
 | aas=>exact hm (.aas) (by simp [C.s_]) h
 | L_=>exact hm (.L_) (by simp [C.s_]) h
 | fn f=>exact hm (.fn f) (by simp [C.s_]) h
 | clo f ds=>
   simp only [KK];split
   ·simp only [Ah];exact h.one
   grind [C.s_]
 | bmv f ds=>
   simp only [KK];split
   ·simp only [Ah];exact h.one
   grind [C.s_]
 | held=>exact hm (.held) (by simp [C.s_]) h
 | any=>exact hm (.any) (by simp [C.s_]) h
 | afN i=>
   simp only [KK];split
   ·simp only [Ah];exact h.one
   grind [C.s_]
 | mp kv=>exact hm (.mp kv) (by simp [C.s_]) h
 | afY g o=>exact hm (.afY g o) (by simp [C.s_]) h
 | isl E n l ds=>exact hm (.isl E n l ds) (by simp [C.s_]) h
theorem Y3 (hf:Frz F w G id len cs): ∀ {ds:List C} {vs:List Value},Al w G ds vs->Al w (Cb F G id none none) (ds.map (KK id len cs)) vs
 | [],[],_=>by simp [Al]
 | [],_::_,h=>by simp [Al]at h
 | _::_,[],h=>by simp [Al]at h
 | c::ds,v::vs,h=>by simp only [Al]at h;simp only [map_cons,Al];exact⟨kQ hf h.1,Y3 hf h.2⟩
mutual
theorem Y4 (hf:Frz F w G id len cs): ∀ (x:V) (v:Value),Ae w G x v->Ae w (Cb F G id none none) (LS id len cs x) v
 | .c x,v,h=>by grind [Ae,LS,kQ]
 | .agg ds,v,h=>by grind [Ae,LS,Y3]
 | .tup vs,v,h=>by simp only [Ae,LS]at h ⊢;obtain⟨arr,e,hr⟩:=h;exact⟨arr,e,UG hf vs _ hr⟩
 | .g b x,v,h=>by
   simp only [Ae,LS]at h ⊢;split
   all_goals simp_all [Y4]
 | .undef,_,_=>by simp only [Ae,LS]
theorem UG (hf:Frz F w G id len cs): ∀ (xs:List V) (vs:List Value),Aq w G xs vs->Aq w (Cb F G id none none) (NU id len cs xs) vs
 | [],_,h=>by grind [Aq,NU]
 | x::xs,vs,h=>by simp only [Aq,NU]at h ⊢;obtain⟨v,r,e,h1,h2⟩:=h;exact⟨v,r,e,Y4 hf x v h1,UG hf xs r h2⟩
end
end
theorem R.frz {F:Fr} {st:St} {a:Act} {w:World} {G:AG} (h:R F st a w G) {id:Ak} {e:Ax} (he:st.look id=some e) {E n len:Nat} (IN:e.row=some (E,n,len)) (hpu:Ap e.cs=true):
 Frz F w G id len e.cs where
 keeps:=h.keeps id none none (le_refl _) (fun _ _ _=>rfl) (by grind)
 own:=by
  intro v hv;obtain⟨hm,hid⟩:=Bh he;have hE:=h.store e hm;unfold Be at hE;rw [IN]at hE;obtain⟨hl,v',h1,h2⟩:=hE;rw [hid,hv]at h1;injection h1 with h1;subst h1;have axm:=AQ id e.cs hpu;simp only [Ah];refine⟨hpu,?_⟩;rcases h2 with ⟨p,rfl,h0,_⟩ | ⟨b,cap,cur,rfl,e2,e3,e4,e5,e6,e7⟩
  ·refine⟨p,0,by rw [h0],by omega,by grind,fun _=>?_, .inl h0⟩;simp_all
  ·rw [hid]at e2;refine⟨_,cap,rfl,e4,e5,fun h0=>?_, .inr ⟨b,0,rfl,?_,h.lt id b e2,?_⟩⟩
   ·simp_all
   ·simp only [Cb];rintro(q | ⟨i,q⟩)
    ·rcases h.new id b e2 with q2 | q2
     ·have:=h.aaS b q;omega
     ·exact h.aaj b q2 q
    ·split at q
     ·cases q
     ·rename_i hi;exact hi (h.inj i id b q e2)
   ·have hk:=h.keeps id none none (le_refl _) (fun _ _ _=>rfl) (by grind);exact An.mono hk _ _ _ (by grind [Dq]) (fun _=>rfl) e7
def St.ab6 (st:St) (id:Ak):Bool:=
 match st.look id with
 | some e=>match e.row with
   | some _=>e.pu
   | none=>false
 | none=>false
theorem R.freeze {F:Fr} {st:St} {a:Act} {w:World} {G:AG} (h:R F st a w G) (id:Ak):
 ∃ G',R F (st.freeze id) a w G'/\(∀ b,G'.wr b->G.wr b)/\(st.ab6 id=true-> ∀ b,G.p_ id=some b-> ¬G'.wr b):=by
 have hid: ∀ b,G.wr b->G.wr b:=fun _ q=>q;unfold St.freeze;split
 ·rename_i e he;split
  ·rename_i E n len IN;split
   ·grind [St.ab6]
   ·rename_i axm;have hm0:=(Bh he).1;have hf:=h.frz he IN (h.B_ e hm0 (by grind));refine⟨Cb F G id none none,h.rename id none none ⟨rfl,rfl,rfl⟩ (le_refl _) (fun _ _ _=>rfl) (by grind) _ (by simp) ?_ ?_ ?_ ?_ ?_ ?_,?_,?_⟩
    rotate_right 2
    ·intro b hb;simp only [Cb]at hb;rw [h.wr];grind
    ·intro _ b hb hw;simp only [Cb]at hw;rcases hw with q | ⟨i,q⟩
     ·rcases h.new id b hb with q2 | q2
      ·have:=h.aaS b q;omega
      ·exact h.aaj b q2 q
     ·split at q
      ·cases q
      ·rename_i hi;exact hi (h.inj i id b q hb)
    ·intro i;simp only;rw [FS (st:=st) (by simp [LS])];exact Y4 hf _ _ (h.z_ i)
    ·exact UG hf _ _ h.I_
    ·intro d hd;simp only [mem_map,mem_filter]at hd;obtain⟨d',⟨hd',hne⟩,rfl⟩:=hd;have:=h.B_ d' hd';obtain⟨i,r,ds,pu⟩:=d';cases pu with
     | true=>exact this
     | false=>intro hq;cases hq
    ·intro d hd;simp only [mem_map,mem_filter]at hd;obtain⟨d',⟨hd',hne⟩,rfl⟩:=hd;have adq:d'.id ≠ id:=by grind
     have hE:=h.store d' hd';have hpd:=h.B_ d' hd';have IN: ∀ {b o},An w G d'.cs b o->An w (Cb F G id none none) (d'.frz id len e.cs).cs b o:=fun hr=>by
      obtain⟨vs,q1,q2⟩:=hr.list;obtain⟨i,r,ds,pu⟩:=d';cases pu with
      | true=>exact An.mono hf.keeps _ _ _ (Dq (fun j hj he=>by subst he;have hj':BS j ds=true:=hj;rw [AQ j ds (hpd rfl)]at hj';cases hj')) (fun _=>rfl) hr
      | false=>exact An.aaA (Y3 hf q1) q2
     have hlen:(d'.frz id len e.cs).cs.length =d'.cs.length:=by obtain⟨i,r,ds,_ | _⟩:=d'<;>simp [Ax.frz]
     have hfi:=Ax.ait id len e.cs d';have hfr:=Ax.aoK id len e.cs d';unfold Be at hE ⊢;rw [hfr];have eb:(Cb F G id none none).p_ d'.id=G.p_ d'.id:=by simp [Cb,adq]
     have eo:(Cb F G id none none).own d'.id=G.own d'.id:=by simp [Cb,adq]
     rw [hfi,eb,eo];split at hE
     ·obtain⟨b,q1,q2⟩:=hE;refine⟨b,q1,?_⟩;rcases q2 with ⟨kv,es,q2,q3⟩ | ⟨T,cur,q2,q3,q4⟩
      ·exact .inl ⟨kv,es,Ax.aq6 q2,q3⟩
      ·exact .inr ⟨T,cur,q2,by rw [hlen];exact q3,IN q4⟩
     ·obtain⟨hl,v,q1,q2⟩:=hE;refine⟨by grind,v,q1,?_⟩;rcases q2 with q2 | ⟨b,cap,cur,e1,e2,e3,e4,e5,e6,e7⟩
      ·grind
      ·exact .inr ⟨b,cap,cur,e1,e2,e3,e4,e5,e6,IN e7⟩
    ·intro d hd;simp only [mem_map,mem_filter]at hd;obtain⟨d',⟨hd',hne⟩,rfl⟩:=hd;have adq:d'.id ≠ id:=by grind
     have hmk: ∀ k,B9 k d'.id ≠ id:=fun k q=>by have h2:=(h.deep e hm0).1;rw [(Bh he).2, <-q]at h2;cases h2
     have hD:BA w G (d'.frz id len e.cs):=by
      have h1:=h.deep d' hd';obtain⟨i,r,ds,pu⟩:=d';cases pu with
      | true=>exact h1
      | false=>exact⟨h1.1,fun hq=>absurd (h1.2 hq).1 (by simp)⟩
     have hfi:=Ax.ait id len e.cs d';exact BA.mono hf.keeps (by grind [Cb]) (by grind [Cb]) (fun _ _=>rfl) (fun _ _ _ _=>rfl) hD
    ·have:(((st.so.filter (fun d=>d.id != id)).map (Ax.frz id len e.cs)).map (·.id))=(st.so.filter (fun d=>d.id != id)).map (·.id):=by simp_all [Ax.ait]
     simp only;rw [this];exact List.Sublist.nodup (by grind [List.filter_sublist]) h.nodup
  grind [St.ab6]
 grind [St.ab6]
end Go.PL
namespace Go.PL
open Go Go.RowKit
theorem Wg {w:World} {G:AG}: ∀ {cs:List C} {vs:List Value},cs.length=vs.length->(∀ (i:Nat) (c:C) (v:Value),cs[i]? =some c->vs[i]? =some v->Ah w G c v)->Al w G cs vs
 | [],[],_,_=>by simp [Al]
 | [],_::_,h,_=>by simp at h
 | _::_,[],h,_=>by simp at h
 | c::cs,v::vs,h,hr=>by simp only [Al];exact⟨hr 0 c v (by simp) (by simp),Wg (by simpa using h) (fun i c' v' h1 h2=>hr (i+1) c' v' (by simpa using h1) (by simpa using h2))⟩
def Cj (z:List C) (k:Nat):List C:=(List.range (k*z.length)).map (fun i=>z.getD (i % z.length) .any)
theorem PN {w:World} {G:AG} {z:List C} {zv:Array Value} (h:Al w G z zv.toList) (hz:0<z.length) (k:Nat):
 Al w G (Cj z k) ((Array.range (k*zv.size)).map (zv[· % zv.size]!)).toList :=by
 have hl:z.length=zv.size:=by simpa using h.length
 refine Wg (by simp [Cj,hl]) (fun i c v h1 h2=>?_);simp only [Cj,List.getElem?_map]at h1;simp only [Array.toList_map,List.getElem?_map,Array.toList_range]at h2;by_cases hi:i<k*z.length
 ·rw [List.getElem?_range (by omega)]at h1;rw [List.getElem?_range (by rw [<-hl];omega)]at h2;simp only [map_some,injEq]at h1 h2;have hm:i % z.length<z.length:=Nat.mod_lt _ hz;obtain⟨v',q1,q2⟩:=h.get (i % z.length) z[i % z.length] (by simp [hm]);grind
 grind
theorem kR: ∀ {v:Value} {c:C},Fc v=some c->c.pure=true:=by intro v c h;unfold Fc at h;split at h<;>first | (cases h;done) | (injection h with h;subst h;rfl)
theorem Wh: ∀ {vs:List Value} {cs:List C},D3 vs=some cs->Ap cs=true
 | [],cs,h=>by simp [D3]at h;subst h;rfl
 | v::vs,cs,h=>by
   unfold D3 at h;split at h
   ·rename_i c cs' h1 h2;injection h with h;subst h;simp only [Ap,kR h1,Wh h2,Bool.and_self]
   ·cases h
theorem Wi {z:List C} (h:Ap z=true) (k:Nat):Ap (Cj z k)=true:=PI _ (fun _=>tt _ h) _
def Y5:Value->Option C
 | .slice none 0 0=>some .L_
 | v=>Fc v
def I4:List Value->Option (List C)
 | []=>some []
 | v::vs=>match Y5 v,I4 vs with
   | some c,some cs=>some (c::cs)
   | _,_=>none
theorem kS {w:World} {G:AG}: ∀ {v:Value} {c:C},Y5 v=some c->Ah w G c v:=by grind [Y5,Ah,QO]
theorem KW {w:World} {G:AG}: ∀ {vs:List Value} {cs:List C},I4 vs=some cs->Al w G cs vs
 | [],cs,h=>by grind [I4,Al]
 | v::vs,cs,h=>by
   unfold I4 at h;split at h
   ·rename_i c cs' h1 h2;injection h with h;subst h;simp only [Al];exact⟨kS h1,KW h2⟩
   ·cases h
def Y6 (P:Program) (t:TypeId):Option (List C):=
 match P.info? t with
 | some i=>match i.zero with
   | some z=>I4 z.cells.toList
   | none=>none
 | none=>none
theorem QW {P:Program} {t:TypeId} {cs:List C} (h:Y6 P t=some cs): ∃ i z,P.info? t=some i/\i.zero=some z/\I4 z.cells.toList=some cs:=by grind [Y6]
def G5:C->C
 | .L_ => .sl 0 []
 | c=>c
def V.ae5:V->V
 | .c x=> .c (G5 x)
 | .agg cs=> .agg (cs.map G5)
 | v=>v
def Wj (p:Nat×V):Nat×V:=(p.1,p.2.ae5)
theorem Jp {w:World} {G:AG} {c:C} {v:Value} (h:Ah w G c v):Ah w G (G5 c) v:=by
 cases c<;>try exact h
 simp only [Ah]at h;subst h;simp only [G5,Ah];exact⟨rfl,none,0,rfl,le_refl _,zero_le _,fun _=>trivial, .inl trivial⟩
theorem UH {w:World} {G:AG}: ∀ {cs:List C} {vs:List Value},Al w G cs vs->Al w G (cs.map G5) vs
 | [],[],_=>by simp [Al]
 | [],_::_,h=>by grind
 | _::_,[],h=>by simp [Al]at h
 | c::cs,v::vs,h=>by simp only [Al]at h;simp only [map_cons,Al];exact⟨Jp h.1,UH h.2⟩
theorem tA {w:World} {G:AG} {x:V} {v:Value} (h:Ae w G x v):Ae w G x.ae5 v:=by cases x<;>grind [V.ae5,Ae,Jp,UH]
structure Eff (P:Program) (F:Fr) (o:Oper) (a:Act) (w:World) (a_:St):Prop where
 out: ∃ nx w' G',(execOp a.eval o).run P w= .ok nx w'/\((∃ v,nx= .value v/\R F a_ (a.put o.dst v) w' G')\/(nx= .skip /\R F a_ (a.put o.dst Go.undef) w' G'))
def St.parts (st:St) (g:Bool) (ps:List (Nat×Operand)):Prop×List (Nat×V):=
 match ps with
 | []=>(True,[])
 | (i,x)::r=>((st.arg g x).1/\(St.parts st g r).1,(i,(st.arg g x).2)::(St.parts st g r).2)
theorem R.parts {F:Fr} {st:St} {a:Act} {w:World} {G:AG} (h:R F st a w G) {g:Bool} (hg:g=true): ∀ {ps:List (Nat×Operand)},(st.parts g ps).1->UF w G (st.parts g ps).2 (ps.map fun(i,x)=>(i,a.eval x))
 | [],_=>by simp [St.parts,UF]
 | (i,x)::r,hs=>by simp only [St.parts]at hs ⊢;simp only [map_cons,UF];exact⟨trivial,h.arg hg hs.1,h.parts hg hs.2⟩
def plc (P:Program) (t:TypeId) (i:Nat):Option (Nat×Nat):=
 match P.underlying t with
 | some (.array _ e)=>match P.info? e with
   | some inf=>some (i*inf.size,inf.size)
   | none=>none
 | some (.struct fs)=>match fs.toList.mapM (fun f=>(P.info? f.type).map fun i=>(f.offset,i.size))with
   | some ps=>ps[i]?
   | none=>none
 | _=>none
def rB (P:Program) (t:TypeId):Bool:=
 match P.underlying t with
 | some (.array _ e)=>(P.info? e).isSome
 | some (.struct fs)=>(fs.toList.mapM (fun f=>(P.info? f.type).map fun i=>(f.offset,i.size))).isSome
 | _=>false
def Ox (P:Program) (st:St) (g:Bool) (t:TypeId) (ps:List (Nat×Operand)):Prop×V:=
 match Y6 P t with
 | some z=>match JO (plc P t) z (st.parts g ps).2 with
   | some cs=>((st.parts g ps).1/\rB P t=true, .agg cs)
   | none=>no
 | none=>no
def Sa (st:St) (n:Nat):V->Option (Nat×List C×Bool)
 | .c (.sl m cs)=>if cs.length=m*n then some (m,cs,true)else none
 | .c (.h_ id)=>match st.look id with
   | some e=>match e.row with
     | some (_,n',m)=>if n'=n then some (m,e.cs,e.pu)else none
     | none=>none
   | none=>none
 | _=>none
def Fd (P:Program) (t:TypeId):Option (TypeId×Nat×Nat):=
 match P.underlying t with
 | some (.slice e)=>match P.info? e with
   | some i=>match i.zero with
     | some z=>if z.cells.size=i.size then some (e,i.size,i.bytes)else none
     | none=>none
   | none=>none
 | _=>none
def Hc (P:Program) (st:St) (T:TypeId) (x y:V):Prop×St:=
 match x,y.cells,KP P T with
 | .c (.ptr id off),some cs,some (_,n)=>match st.look id with
   | some e=>(cs.length=n/\off+n<=e.cs.length,st.acN id (e.cs.take off++cs++e.cs.drop (off+cs.length)) (Ap cs))
   | none=>(False,st)
 | _,_,_=>(False,st)
def Gr (P:Program) (st:St) (d:Nat) (t:TypeId) (s x:V):Prop×St:=
 match s,Fd P t with
 | .c (.h_ id),some (E,n,by')=>match st.look id,Sa st n x with
   | some e,some (m,cs,q)=>match e.row with
     | some (E',n',len)=>(E'=E/\n'=n/\0<n/\(len+m)*by'<=140737488355328/\len+m<=maxLen,(st.new ⟨id,some (E,n,len+m),e.cs++cs,e.pu&&q⟩).put (some d) (.c (.h_ id)))
     | none=>(False,st)
   | _,_=>(False,st)
 | _,_=>(False,st)
def Wl (P:Program) (st:St) (d:Nat) (t:TypeId) (x y:V):Prop×St:=
 match x,y,DG P t with
 | .c (.bsl id off len), .c (.bsl id2 afm abf),some (_,1)=>match st.look id,st.look id2 with
   | some e,some e2=>(off+Nat.min abf len<=e.cs.length/\afm+Nat.min abf len<=e2.cs.length,
    (st.acN id (e.cs.take off++(e2.cs.drop afm).take (Nat.min abf len)++e.cs.drop (off+((e2.cs.drop afm).take (Nat.min abf len)).length)) (Ap ((e2.cs.drop afm).take (Nat.min abf len)))).put (some d) (.c (.int .i64 (Nat.min abf len:Nat))))
   | _,_=>(False,st)
 | _,_,_=>(False,st)
def KX (P:Program) (st:St) (d:Nat) (t:TypeId) (l c:V):Prop×St:=
 match l,c,Fd P t with
 | .c (.int _ l), .c (.int _ c),some (E,n,by')=>match Qw P E with
   | some z=>(0<=l/\l<=c/\c*by'<=140737488355328/\c<=maxLen/\z.length=n/\0<n,(st.new ⟨d::st.pre,some (E,n,l.toNat),Cj z l.toNat,true⟩).put (some d) (.c (.h_ (d::st.pre))))
   | none=>(False,st)
 | _,_,_=>(False,st)
def By (P:Program) (st:St) (d:Nat) (t:TypeId) (len:Nat) (ps:List (Nat×Operand)):Prop×St:=
 match Fd P t with
 | some (E,n,_)=>match Qw P E with
   | some z=>match JO (fun i=>some (i*n,n)) (Cj z len) ((st.parts true ps).2.map Wj)with
     | some cs=>((st.parts true ps).1/\z.length=n/\0<n/\len*n<=2 ^ 24,(st.new ⟨d::st.pre,some (E,n,len),cs,Ap cs⟩).put (some d) (.c (.h_ (d::st.pre))))
     | none=>(False,st)
   | none=>(False,st)
 | none=>(False,st)
def oQ:Operand->V->V
 | .const (.slice none 0 0),_=> .c .L_
 | _,v=>v
def Xu (st:St) (x v:V):V:=
 match v with
 | .c .L_ =>match x with
   | .c (.ptr id _)=>match st.look id with
     | some e=>match e.row with
       | some _=> .c (.sl 0 [])
       | none=>v
     | none=>v
   | _=>v
 | _=>v
theorem kT {w:World} {G:AG} {st:St} {x v:V} {u:Value} (h:Ae w G v u):Ae w G (Xu st x v) u:=by
 unfold Xu;split
 ·have h2:Ae w G (.c (.sl 0 [])) u:=by simp only [Ae]at h ⊢;exact Jp h
  grind
 ·exact h
theorem kU {w:World} {G:AG} {a:Act} {y:Operand} {v:V} (h:Ae w G v (a.eval y)):Ae w G (oQ y v) (a.eval y):=by
 unfold oQ;split
 ·simp only [Ae,Ah];rfl
 ·exact h
def ef (P:Program) (st:St) (o:Oper):Prop×St:=
 match o.op with
 | .store T x y=>let r:=Hc P st T (st.arg true x).2 (Xu st (st.arg true x).2 (oQ y (st.arg true y).2))
   ((st.arg true x).1/\(st.arg true y).1/\r.1,r.2.put o.dst .undef)
 | op=>match o.dst with
   | none=>(False,st)
   | some d=>match op with
     | .alloc T=>match Y6 P T with
       | some cs=>(True,(st.new ⟨d::st.pre,none,cs,false⟩).put (some d) (.c (.ptr (d::st.pre) 0)))
       | none=>(False,st)
     | .box T x=>match (st.arg true x).2.cells with
       | some cs=>((st.arg true x).1/\T=T,(st.new ⟨d::st.pre,none,cs,false⟩).put (some d) (.c (.ptr (d::st.pre) 0)))
       | none=>(False,st)
     | .assign (.const (.slice none 0 0))=>match DG P o.type with
       | some (E,n)=>(True,(st.new ⟨d::st.pre,some (E,n,0),[],true⟩).put (some d) (.c (.h_ (d::st.pre))))
       | none=>(False,st)
     | .buildSlice t len ps=>By P st d t len ps.toList
     | .makeSlice t l c=>let r:=KX P st d t (st.arg true l).2 (st.arg true c).2
       ((st.arg true l).1/\(st.arg true c).1/\r.1,r.2)
     | .call c=>match c.callee,c.args.toList,c.argTypes.toList with
       | .builtin .append,[s,x],[t,t']=>let r:=Gr P st d t (st.arg true s).2 (st.arg true x).2
         ((st.arg true s).1/\(st.arg true x).1/\t=t'/\r.1,r.2)
       | .builtin .copy,[s,x],[t,t']=>let r:=Wl P st d t (st.arg true s).2 (st.arg true x).2
         ((st.arg true s).1/\(st.arg true x).1/\t'=t'/\r.1,r.2)
       | _,_,_=>(False,st)
     | _=>(False,st)
theorem UI {w:World} {G:AG}: ∀ {xs:List (Nat×V)} {ys:List (Nat×Value)},UF w G xs ys->UF w G (xs.map Wj) ys
 | [],[],h=>h
 | (i,x)::xs,(j,v)::ys,h=>by simp only [UF]at h;simp only [map_cons,Wj,UF];exact⟨h.1,tA h.2.1,UI h.2.2⟩
 | [],_::_,h=>by grind
 | _::_,[],h=>by simp [UF]at h
theorem iu {P:Program} {F:Fr} {st:St} {a:Act} {w:World} {G:AG} (h:R F st a w G) {g:Bool} (hg:g=true) {t:TypeId} {ps:Array (Nat×Operand)} (hs:(Ox P st g t ps.toList).1):
 ∃ v,Ae w G (Ox P st g t ps.toList).2 v/\ ∀ w',(Instr.build t (ps.map fun(i,x)=>(i,a.eval x))).run P w'= .ok v w':=by
 unfold Ox at *;split at hs
 ·rename_i z hz;split at hs
  ·rename_i cs hf;obtain⟨i,zv,hi,hzv,hc⟩:=QW hz;obtain⟨abo,q1,q2⟩:=MK hf (h.parts hg hs.1) (KW (w:=w) (G:=G) hc);refine⟨.agg abo,⟨abo,rfl,q2⟩,fun w'=>run_build w' t _ abo ?_⟩;have hok:=hs.2;unfold rB at hok;unfold Program.built;rw [hi];split at hok
   ·rename_i n e hu;cases hie:P.info? e with
    | none=>grind
    | some ie=>
      simp only [hu,hzv,hie];have e1:plc P t=fun i=>some (i*ie.size,ie.size):=by grind [plc]
      simp_all
   ·rename_i fs hu;cases hm:fs.toList.mapM (fun f=>(P.info? f.type).map fun i=>(f.offset,i.size))with
    | none=>grind
    | some pl=>
      simp only [hu,hzv,hm];have e1:plc P t=fun i=>pl[i]? :=by grind [plc]
      simp_all
   ·cases hok
  grind
 grind
theorem FV {P:Program} {t e:TypeId} {n by':Nat} (h:Fd P t=some (e,n,by')):
 ∃ i z,P.underlying t=some (.slice e)/\P.info? e=some i/\i.zero=some z/\i.size=n/\i.bytes=by'/\z.cells.size=n:=by
 unfold Fd at h;grind
theorem Sb {P:Program} {F:Fr} {st:St} {a:Act} {w:World} {G:AG} (h:R F st a w G) {T:TypeId} {x y:V} {u v:Value} (hx:Ae w G x u) (hy:Ae w G y v) (hs:(Hc P st T x y).1):
 ∃ w',(Instr.storeAt T u v).run P w= .ok () w'/\R F (Hc P st T x y).2 a w' G:=by
 unfold Hc at *;split at hs
 ·rename_i id off cs ag n hc ht;split at hs
  ·rename_i e he;obtain⟨h1,h2⟩:=hs;obtain⟨d,i,hu,hd,hi,hsz⟩:=C9 ht;simp only [Ae,Ah]at hx;obtain⟨b,hb,rfl⟩:=hx;have hv:=JM hy hc;have hlv:=hv.length;obtain⟨cur,T',afw,alL,hR⟩:=h.stored he hb (off:=off) (xs:=cs) hv (by omega);refine⟨_,?_,hR⟩;have hst:=run_storeCells_at P b off T' v.cells.toList 0 cur w afw (by simpa using alL) (Al.one hv);simp only [add_zero]at hst;simp_all [Instr.storeAt,Instr.sureAddr,storeVar,sizeOf,typeInfo]
  grind
 grind
theorem kV {F:Fr} {st:St} {a:Act} {w:World} {G:AG} (h:R F st a w G) {n m:Nat} {x:V} {cs:List C} {q:Bool} {u:Value} (hs:Sa st n x=some (m,cs,q)) (hx:Ae w G x u):
 (q=true->Ap cs=true)/\ ∃ ad cap vs,u= .slice ad m cap/\Al w G cs vs/\vs.length=m*n/\(ad=none->m=0)/\ ∀ b,ad=some b-> ∀ j v,vs[j]? =some v->w.cell? (b.add j)=some v:=by
 unfold Sa at hs;split at hs
 ·split at hs
  ·rename_i hl;simp only [injEq,Prod.mk.injEq]at hs;obtain⟨rfl,rfl,rfl⟩:=hs;simp only [Ae,Ah]at hx;refine⟨fun _=>hx.1,?_⟩;obtain⟨_,ad,cap,rfl,_,_,h0,h1 | ⟨b,o,rfl,_,_,hr⟩⟩:=hx
   ·have:=h0 h1;subst this;exact⟨ad,cap,[],rfl,by simp [Al],by grind,fun _=>h1,(by grind)⟩
   ·obtain⟨vs,q1,q2⟩:=hr.list;have:=q1.length;exact⟨_,cap,vs,rfl,q1,by omega,(by simp),fun b' hb' j v hv=>by injection hb' with hb';subst hb';rw [Addr.add_mid];exact q2 j v hv⟩
  ·cases hs
 ·split at hs
  ·rename_i e hlk;split at hs
   ·rename_i E n' m' IN;split at hs
    ·rename_i hn;simp only [injEq,Prod.mk.injEq]at hs;obtain⟨rfl,rfl,rfl⟩:=hs;obtain⟨hm,hid⟩:=Bh hlk;refine⟨h.B_ e hm,?_⟩;have hE:=h.store e hm;obtain⟨v,vs,k1,k2,k3,k4⟩:=FT IN hE;simp only [Ae,Ah]at hx;rw [hid]at k1;rw [k1]at hx;obtain⟨hx,_⟩:=hx;injection hx with hx;subst hx;rcases k4 with ⟨k4,k5⟩ | ⟨p,rfl,q0,rfl,_⟩
     rotate_left
     ·grind
     rcases k4.2 with ⟨q,q0⟩ | ⟨g,cap,cur,q,_⟩
     ·have:vs=[]:=by have:=k4.1;simp_all
      grind
     ·refine⟨_,cap,vs,q,k3,by rw [k4.1,hn],(by simp),fun b hb j v hv=>?_⟩;injection hb with hb;subst hb;exact k4.cells (by rw [q];rfl) j v hv
    ·cases hs
   ·cases hs
  ·cases hs
 ·cases hs
theorem dq {P:Program} {F:Fr} {st:St} {a:Act} {w:World} {G:AG} (h:R F st a w G) {d:Nat} {t ty:TypeId} {s x:V} {u v:Value} (hx:Ae w G s u) (hy:Ae w G x v) (hs:(Gr P st d t s x).1):
 ∃ r w' G',(Builtin.append_ #[t,t] ty #[u,v]).run P w= .ok r w'/\R F (Gr P st d t s x).2 (a.put (some d) r) w' G':=by
 unfold Gr at *;split at hs
 ·rename_i id E n by' abP;split at hs
  ·rename_i e m cs q hlk aqJ;split at hs
   ·rename_i E' n' len IN;obtain⟨rfl,rfl,hn0,ais,aqP⟩:=hs;obtain⟨i,z,hu,hi,hz,hsz,hby,hzs⟩:=FV abP;obtain⟨hm,hid⟩:=Bh hlk;obtain⟨u',xs,k1,k2,k3,k4⟩:=FT IN (h.store e hm);simp only [Ae,Ah]at hx;rw [hid]at k1;rw [k1]at hx;obtain⟨hx,_⟩:=hx;injection hx with hx;subst hx;obtain⟨hqp,ad,cap,us,rfl,q1,q2,q3,q4⟩:=kV h aqJ hy;rcases k4 with ⟨k4,k5⟩ | ⟨p,rfl,rfl,rfl,k5⟩
    rotate_left
    ·rw [hid]at k5;have hcs:e.cs=[]:=List.length_eq_zero_iff.1 (by simpa using k3.length);by_cases hm0:m=0
     ·subst hm0;have hus:us=[]:=by grind
      subst hus;have hc0:cs=[]:=List.length_eq_zero_iff.1 (by simpa using q1.length);subst hc0;have A_:(Builtin.append_ #[t,t] ty #[.slice (some p) 0 0, .slice ad 0 cap]).run P w= .ok (.slice (some p) 0 0) w:=by cases ad<;>simp [Builtin.append_,run_underlying hu,sizeOf,typeInfo,program,Sem.run,hi,Builtin.lenOf,Builtin.firstCells,storeCells,loadCells,loadCellsFrom]
      obtain⟨G',g1,g2⟩:=h.al8 (id:=id) (e:=e) (E:=E') (n:=n') (p:=p) (e.pu&&q) hcs;refine⟨_,w,G',A_,?_⟩;exact R.put (d:=some d) g1 (show Ae w G' (V.c (C.h_ id)) (.slice (some p) 0 0) by simp only [Ae,Ah];grind)
     ·obtain⟨b,rfl⟩: ∃ b,ad=some b:=by cases ad<;>grind
      obtain⟨r,w',A_,aaz,hg,hfr⟩:=NS (P:=P) (w:=w) t ty E' i z n' by' hu hi hz hsz hby hzs hn0 p b m cap us q2 (q4 b rfl) (by omega) (by omega) (by grind);obtain⟨G',g1,g2,g3⟩:=h.ajw (len:=0) (v:= .slice none 0 0) (xs:=[]) hlk hqp k5.symm k3 q1 ⟨by simp, .inl ⟨rfl,rfl⟩⟩ (by simpa using aaz) hg (.inr hfr);refine⟨r,w',G',A_,?_⟩;grind [R.put,Ae,Ah]
    rw [hid]at k5;have main: ∀ r w',(Builtin.append_ #[t,t] ty #[u', .slice ad m cap]).run P w= .ok r w'->w'.ownsRow 0 E' n' r (len+m) (xs++us)->w.grownBy w' u'.ownBlock->(r.ownBlock=u'.ownBlock\/ ∀ b,r.ownBlock=some b->w.heap.size<=b)->
     ∃ r w' G',(Builtin.append_ #[t,t] ty #[u', .slice ad m cap]).run P w= .ok r w'/\R F ((st.new ⟨id,some (E',n',len+m),e.cs++cs,e.pu&&q⟩).put (some d) (.c (.h_ id))) (a.put (some d) r) w' G':=by
     intro r w' A_ aaz hg hfr;obtain⟨G',g1,g2,g3⟩:=h.ajw hlk hqp k5 k3 q1 k4 aaz hg hfr;exact⟨r,w',G',A_,g1.put (by grind [Ae,Ah])⟩
    cases ad with
    | some b=>
      obtain⟨r,w',A_,aaz,hg,hfr⟩:=NR (P:=P) (w:=w) t ty E' i z n' by' hu hi hz hsz hby hzs hn0 u' len xs k4 b m cap us q2 (q4 b rfl) (Al.one q1) aqP ais;grind
    | none=>
      have hm0:=q3 rfl;subst hm0;have hus:us=[]:=by grind
      subst hus;refine main u' w ?_ (by grind) ⟨rfl,rfl,rfl,le_refl _,fun _ _ _=>rfl⟩ (.inl rfl);have hcap: ∃ bs c,u'= .slice bs len c/\len<=c/\(∀ b,bs=some b->b.spot=none):=by
       rcases k4.2 with ⟨q,q0⟩ | ⟨g,c,cur,q,_,_,q5,_⟩
       all_goals grind
      obtain⟨bs,c,rfl,hc,_⟩:=hcap;cases bs<;>simp [Builtin.append_,run_underlying hu,sizeOf,typeInfo,program,Sem.run,hi,Builtin.lenOf,Builtin.firstCells,hc,storeCells]
   grind
  grind
 grind
theorem kW {P:Program} {F:Fr} {st:St} {a:Act} {w:World} {G:AG} (h:R F st a w G) {d:Nat} {t t' ty:TypeId} {x y:V} {u v:Value} (hx:Ae w G x u) (hy:Ae w G y v) (hs:(Wl P st d t x y).1):
 ∃ r w' G',(Builtin.copy_ #[t,t'] ty #[u,v]).run P w= .ok r w'/\R F (Wl P st d t x y).2 (a.put (some d) r) w' G':=by
 unfold Wl at *;split at hs
 ·rename_i id off len id2 afm abf E abP;split at hs
  ·rename_i e e2 he he2;obtain⟨q1,q2⟩:=hs;obtain⟨hu,inf,hi,hsz⟩:=Ec abP;simp only [Ae,Ah]at hx hy;obtain⟨b,cap,o,hb,rfl,_,ho1,ho⟩:=hx;obtain⟨b2,are,o2,hb2,rfl,_,_,ho2⟩:=hy;obtain⟨hm2,axB⟩:=Bh he2;obtain⟨aFG,T2,_,_,ato⟩:=(h.store e2 hm2).row (Yu he2) (by rw [axB];exact hb2);obtain⟨vs,k1,k2⟩:=((ato.drop afm).take (Nat.min abf len)).list;have hlx:=k1.length;have hl:((e2.cs.drop afm).take (Nat.min abf len)).length =Nat.min abf len:=by grind
   obtain⟨cur,T',afw,alL,hR⟩:=h.stored he hb (off:=off) k1 (by grind);have hw:w.setRow b (cur.toList.take o++vs++cur.toList.drop (o+vs.length)).toArray =w.setRow b (cur.toList.take off++vs++cur.toList.drop (off+vs.length)).toArray :=by
    by_cases hz:vs.length=0
    ·simp_all
    grind
   have A_:=run_copy_row (P:=P) w t t' ty E b o len cap ⟨b2,o2,none⟩ abf are cur T' vs hu (by grind) afw (by omega) (fun j v hv=>by have hj:j<vs.length:=(by grind);have e:o2=afm:=(by grind);subst e;have:=k2 j v hv;grind [Addr.add_mid]) (by omega) (Al.one k1)
   rw [hw]at A_;refine⟨_,_,G,A_,hR.put (d:=some d) ?_⟩;grind [Ae,Ah,goInt]
  grind
 grind
theorem iv {F:Fr} {w:World} {G:AG} {id:Ak} {b:Option Nat} {v:Value} (h:v.oneCell'=true):Ae w (Cb F G id b (some v)) (.c (.h_ id)) v:=by simp [Ae,Ah,Cb,h]
theorem adv {P:Program} {w:World} {t E:TypeId} {i:TypeInfo} {zv:Value} {n len:Nat} {ps:Array (Nat×Value)} {abo:Array Value} (hu:P.underlying t=some (.slice E)) (hi:P.info? E=some i) (hz:i.zero=some zv)
 (hsz:i.size=n) (h3:0<n) (h4:len*n<=2 ^ 24) (hf:Instr.fill (fun i=>some (i*n,n)) ((Array.range (len*n)).map (zv.cells[· % zv.cells.size]!)) ps.toList=some abo):
 (Instr.buildSlice t len ps).run P w= .ok (.slice (some ⟨w.heap.size,0,none⟩) len len) (w.alloc (.cells abo E)):=by
 have alO: ¬2 ^ 24<len*n:=by omega
 by_cases h0:len=0
 ·simp_all [Array.range_zero',Instr.buildSlice,run_underlying,sizeOf,typeInfo,newRow]
 ·have h1: ¬len*n=0:=by rw [Nat.mul_eq_zero];omega
  have h2:n ≠ 0:=by omega
  simp [Instr.buildSlice,run_underlying hu,sizeOf,typeInfo,hi,hsz,alO,zeroValue,hz,hf,newRow];grind
theorem Wm {P:Program} {F:Fr} {st:St} {a:Act} {w:World} {G:AG} (h:R F st a w G) {d:Nat} {t:TypeId} {l c:V} {u v:Value} (hx:Ae w G l u) (hy:Ae w G c v) (hs:(KX P st d t l c).1):
 ∃ r w' G',(Instr.makeSlice t u v).run P w= .ok r w'/\R F (KX P st d t l c).2 (a.put (some d) r) w' G':=by
 unfold KX at *;split at hs
 ·rename_i k1 l k2 c E n by' abP;split at hs
  ·rename_i z hz;obtain⟨h0,h1,h2,h3,h4,h5⟩:=hs;obtain⟨i,zv,hu,hi,hzv,hsz,hby,hzs⟩:=FV abP;obtain⟨i',zv',hi',adp,hc⟩:=JN hz;rw [hi]at hi';injection hi' with hi';subst hi';rw [hzv]at adp;injection adp with adp;subst adp;simp only [Ae,Ah]at hx hy;subst hx hy;have hM:maxLen=9223372036854775807:=rfl;have A_:=run_make (P:=P) w t E i zv hu hi hzv k1 k2 l c h0 h1 (by rw [hby,Int.mul_comm];omega) (by omega);have hzr:=PN (G9 (w:=w) (G:=G) hc) (by omega) l.toNat
   rw [hzs]at hzr;have hle:l.toNat*n<=c.toNat*n:=Nat.mul_le_mul_right _ (by omega);have IN:=h.row (d::st.pre) E n l.toNat c.toNat (Cj z l.toNat) (madeCells zv.cells (c.toNat*i.size)) _ hzr (by
    simp only [madeCells,Array.toList_map,Array.toList_range,List.length_map,List.length_range, <-List.map_take,hzs];grind) (by simp [Cj,h4]) (by rw [size_madeCells,hsz]) (by omega) (by omega) true (fun _=>Wi (Wh hc) _)
   exact⟨_,_,_,A_,R.put (d:=some d) IN (iv rfl)⟩
  grind
 grind
theorem JP {P:Program} {F:Fr} {st:St} {a:Act} {w:World} {G:AG} (h:R F st a w G) {t E:TypeId} {len n by':Nat} {ps:Array (Nat×Operand)} {z cs:List C} (abP:Fd P t=some (E,n,by')) (hz:Qw P E=some z)
 (hf:JO (fun i=>some (i*n,n)) (Cj z len) ((st.parts true ps.toList).2.map Wj)=some cs) (h1:(st.parts true ps.toList).1) (h2:z.length=n) (h3:0<n) (h4:len*n<=2 ^ 24):
 ∃ abo,(Instr.buildSlice t len (ps.map fun(i,x)=>(i,a.eval x))).run P w= .ok (.slice (some ⟨w.heap.size,0,none⟩) len len) (w.alloc (.cells abo E))/\Al w G cs abo.toList/\cs.length=len*n/\abo.size=len*n/\len<=maxLen:=by
 obtain⟨i,zv,hu,hi,hzv,hsz,hby,hzs⟩:=FV abP;obtain⟨i',zv',hi',adp,hc⟩:=JN hz;rw [hi]at hi';injection hi' with hi';subst hi';rw [hzv]at adp;injection adp with adp;subst adp;have hzr:=PN (G9 (w:=w) (G:=G) hc) (by omega) len;obtain⟨abo,q1,q2⟩:=MK hf (UI (h.parts rfl h1)) hzr;have q1':Instr.fill (fun i=>some (i*n,n)) ((Array.range (len*n)).map (zv.cells[· % zv.cells.size]!)) (ps.map fun(i,x)=>(i,a.eval x)).toList =some abo:=by simp_all
 have x_:abo.size=len*n:=by
  have e1:=q2.length;have e2:cs.length=(Cj z len).length :=by
   clear hzr q1 q1' q2 e1;have hz': ∀ (l:List (Nat×V)) (b out:List C),JO (fun i=>some (i*n,n)) b l=some out->out.length=b.length:=by
    intro l;induction l with
    | nil=>grind [JO]
    | cons p l ih=>
      grind [JO]
   grind
  grind [Cj]
 have hcl:cs.length=len*n:=by have:=q2.length;grind
 have hM:maxLen=9223372036854775807:=rfl;have hlen:len<=maxLen:=by have:len*1<=len*n:=Nat.mul_le_mul_left _ h3;omega
 grind [adv]
theorem KY {P:Program} {F:Fr} {st:St} {a:Act} {w:World} {G:AG} (h:R F st a w G) {d:Nat} {t:TypeId} {len:Nat} {ps:Array (Nat×Operand)} (hs:(By P st d t len ps.toList).1):
 ∃ r w' G',(Instr.buildSlice t len (ps.map fun(i,x)=>(i,a.eval x))).run P w= .ok r w'/\R F (By P st d t len ps.toList).2 (a.put (some d) r) w' G':=by
 unfold By at *;split at hs
 ·rename_i E n by' abP;split at hs
  ·rename_i z hz;split at hs
   ·rename_i cs hf;obtain⟨h1,h2,h3,h4⟩:=hs;obtain⟨abo,q1,q2,hcl,x_,hlen⟩:=JP h abP hz hf h1 h2 h3 h4;exact⟨_,_,_,q1,R.put (d:=some d) (h.row (d::st.pre) E n len len cs abo abo.toList q2 (by grind) hcl x_ (le_refl _) hlen (Ap cs) id) (iv rfl)⟩
   grind
  grind
 grind
theorem Sc {P:Program} {F:Fr} {st:St} {a:Act} {w:World} {G:AG} (h:R F st a w G) {o:Oper} (hs:(ef P st o).1):Eff P F o a w (ef P st o).2:=by
 obtain⟨dst,op,ty,pos,aft,gd⟩:=o;cases op<;>cases dst<;>simp only [ef]at hs ⊢ <;>try (exact hs.elim)
 case store.none T x y=>
  obtain⟨w',h1,h2⟩:=Sb h (h.arg rfl hs.1) (kT (kU (h.arg rfl hs.2.1))) hs.2.2;exact⟨.skip,w',G,by simp [execOp,h1], .inr ⟨rfl,h2⟩⟩
 case store.some T x y d=>
  obtain⟨w',h1,h2⟩:=Sb h (h.arg rfl hs.1) (kT (kU (h.arg rfl hs.2.1))) hs.2.2;exact⟨.skip,w',G,by simp [execOp,h1], .inr ⟨rfl,(by grind [R.put,Ae])⟩⟩
 case alloc.some T d=>
  split at hs
  ·rename_i cs hz;obtain⟨i,z,hi,hzv,hc⟩:=QW hz;have hb:=h.box (d::st.pre) T cs z.cells (KW hc) false (fun q=>by cases q);refine⟨.value (.pointer (some ⟨w.heap.size,0,none⟩)),_,_,?_, .inl ⟨_,rfl,R.put (d:=some d) hb (by simp [Ae,Ah,Cb])⟩⟩;simp_all [execOp,Instr.alloc,adN,newVar,newRow]
  grind
 case box.some T x d=>
  split at hs
  ·rename_i cs hc;have hv:=JM (h.arg rfl hs.1) hc;have hb:=h.box (d::st.pre) T cs (a.eval x).cells hv false (fun q=>by cases q);refine⟨.value (.pointer (some ⟨w.heap.size,0,none⟩)),_,_,?_, .inl ⟨_,rfl,R.put (d:=some d) hb (by simp [Ae,Ah,Cb])⟩⟩;simp [execOp,Instr.box,newVar,newRow]
  grind
 case assign.some x d=>
  split at hs
  all_goals first
   | (rename_i q;cases q;done)
   | (rename_i q
      cases q
      split at hs
      ·rename_i E n hE;have hb:=h.amD (d::st.pre) E n;exact⟨.value (.slice none 0 0),w,_,by simp [execOp,Act.eval], .inl ⟨_,rfl,R.put (d:=some d) hb (iv rfl)⟩⟩
      grind)
   | grind
 case buildSlice.some t len ps d=>
  obtain⟨r,w',G',q1,q2⟩:=KY (d:=d) h hs;exact⟨.value r,w',G',by simp [execOp,q1], .inl ⟨r,rfl,q2⟩⟩
 case makeSlice.some t l c d=>
  obtain⟨r,w',G',q1,q2⟩:=Wm (d:=d) h (h.arg rfl hs.1) (h.arg rfl hs.2.1) hs.2.2;exact⟨.value r,w',G',by simp [execOp,q1], .inl ⟨r,rfl,q2⟩⟩
 case call.some c d=>
  split at hs
  ·rename_i s x t t' h1 h2 h3;obtain⟨q1,q2,q3,q4⟩:=hs;subst q3;have ea:c.args= #[s,x]:=by grind
   have et:c.argTypes= #[t,t]:=by grind
   obtain⟨r,w',G',k1,k2⟩:=dq (d:=d) (ty:=ty) h (h.arg rfl q1) (h.arg rfl q2) q4;exact⟨.value r,w',G',by simp_all [execOp,resolve,invoke,builtin], .inl ⟨r,rfl,k2⟩⟩
  ·rename_i s x t t' h1 h2 h3;obtain⟨q1,q2,_,q4⟩:=hs;have ea:c.args= #[s,x]:=by grind
   have et:c.argTypes= #[t,t']:=by grind
   obtain⟨r,w',G',k1,k2⟩:=kW (d:=d) (t':=t') (ty:=ty) h (h.arg rfl q1) (h.arg rfl q2) q4;exact⟨.value r,w',G',by simp_all [execOp,resolve,invoke,builtin], .inl ⟨r,rfl,k2⟩⟩
  grind
end Go.PL
namespace Go.PL
open Go Go.RowKit
def ent (P:Program) (f:FuncId):Bool:=
 match P.funcs[f]? with
 | some fn=> !(fn.name== "runtime.NumGoroutine")&&fn.body.isSome
 | none=>false
structure Ce (P:Program) (I:World->Prop) (f:FuncId) (args:List V) (Q:V->Prop):Prop where
 ent:ent P f=true
 run: ∀ (w:World) (vs:Array Value) (av:Nat->Prop),I w->(∀ b,av b->b<w.heap.size)->Aq w (im av) args vs.toList->
  Calls P f vs w (fun e w'=> ∃ v r,e= .returned v/\Q r/\r.pure=true/\Ae w' (im av) r v/\Below w.heap.size w w')
theorem ab2 {P:Program} {f:FuncId} (h:ent P f=true) (args:Array Value) (w:World):(callFunc f args).run P w= .ok (.enter f args) w:=by
 unfold ent at h;split at h
 ·rename_i fn hf;simp only [and_eq_true,not_eq_true']at h;have h2: ¬fn.body=none:=by grind
  simp_all [callFunc]
 ·cases h
mutual
def V.flat:V->Bool
 | .c x=>x.flat
 | .agg cs=>cs.all C.flat
 | .tup vs=>Lu vs
 | _=>false
def Lu:List V->Bool
 | []=>true
 | v::vs=>v.flat&&Lu vs
end
mutual
def kX:V->Value
 | .c x=>I3 x
 | .agg cs=> .agg (cs.map I3).toArray
 | .tup vs=> .tuple (kY vs).toArray
 | _=>Go.undef
def kY:List V->List Value
 | []=>[]
 | v::vs=>kX v::kY vs
end
theorem UJ {w:World} {G:AG}: ∀ {cs:List C} {vs:List Value},cs.all C.flat=true->(Al w G cs vs↔vs=cs.map I3)
 | [],[],_=>by simp [Al]
 | [],_::_,_=>by simp [Al]
 | _::_,[],_=>by simp [Al]
 | c::cs,v::vs,h=>by simp only [List.all_cons,and_eq_true]at h;simp only [Al,map_cons,List.cons.injEq,AS h.1,UJ h.2]
mutual
theorem FW {w:World} {G:AG}: ∀ {x:V} {v:Value},x.flat=true->(Ae w G x v↔v=kX x)
 | .c x,v,h=>by grind [Ae,kX,AS,V.flat]
 | .agg cs,v,h=>by
   simp only [Ae,kX];constructor
   ·rintro⟨arr,rfl,hr⟩;rw [UJ (by simpa only [V.flat] using h)]at hr;rw [<-hr]
   grind [UJ,V.flat]
 | .tup vs,v,h=>by
   simp only [Ae,kX];constructor
   ·rintro⟨arr,rfl,hr⟩;rw [ML (by simpa only [V.flat] using h)]at hr;rw [<-hr]
   ·intro e;exact⟨_,e,by rw [ML (by simpa only [V.flat] using h)]⟩
 | .g _ _,_,h=>by simp [V.flat]at h
 | .undef,_,h=>by simp [V.flat]at h
theorem ML {w:World} {G:AG}: ∀ {xs:List V} {vs:List Value},Lu xs=true->(Aq w G xs vs↔vs=kY xs)
 | [],vs,_=>by simp only [Aq,kY]
 | x::xs,vs,h=>by
   simp only [Lu,and_eq_true]at h;simp only [Aq,kY];constructor
   ·rintro⟨v,r,rfl,h1,h2⟩;rw [(FW h.1).1 h1,(ML h.2).1 h2]
   ·intro e;exact⟨_,_,e,(FW h.1).2 rfl,(ML h.2).2 rfl⟩
end
def KZ (st:St):C->C
 | .h_ id=>match st.look id with
   | some e=>match e.row with
     | some (_,_,len)=>if e.pu then .sl len e.cs else .any
     | none=> .any
   | none=> .any
 | .L_ => .sl 0 []
 | c=>c
def BC (st:St):V->V
 | .c x=> .c (KZ st x)
 | .agg cs=> .agg (cs.map (KZ st))
 | v=>v
def Sd:C->List Ak
 | .h_ id=>[id]
 | _=>[]
def vF:V->List Ak
 | .c x=>Sd x
 | .agg cs=>cs.flatMap Sd
 | _=>[]
theorem eR {F:Fr} {st:St} {a:Act} {w:World} {G:AG} (h:R F st a w G) {av:Nat->Prop} (hav: ∀ b,b<w.heap.size->av b->G.wr b) {c:C} {v:Value} (hid: ∀ id∈Sd c,st.ab6 id=true-> ∀ b,G.p_ id=some b-> ¬av b)
 (hp:(KZ st c).pure =true) (hr:Ah w G c v):Ah w (im av) (KZ st c) v:=by
 cases c with
 | h_ id=>
   simp only [KZ]at hp ⊢;split at hp
   ·rename_i e he;split at hp
    ·rename_i E n len IN;split
     rotate_left
     ·grind [Ah]
     rename_i hpu;have hpl:Ap e.cs=true:=h.B_ e (Bh he).1 hpu;have hok:st.ab6 id=true:=by grind [St.ab6]
     have hf:=(h.frz he IN hpl).own v (by grind [Ah]);simp only [Ah]at hf ⊢;obtain⟨hpp,ad,cap,q1,q2,q3,q4,q5⟩:=hf;refine⟨hpp,ad,cap,q1,q2,q3,q4,?_⟩;rcases q5 with q5 | ⟨b,o,rfl,k1,k2,k3⟩
     ·grind
     ·by_cases hz:len=0
      ·grind
      refine .inr ⟨b,o,rfl,?_,k2,?_⟩
      ·have hb:G.p_ id=some b:=by obtain⟨hm,aEF⟩:=Bh he;have hE:=h.store e hm;grind [Be,Ah]
       exact hid id (by simp [Sd]) hok b hb
      ·exact An.mono (G:=Cb F G id none none) (G':=im av) ⟨le_refl _,fun _ _ _=>rfl,fun b' hb' hw=>by
        have:=hav b' hb' hw;rw [h.wr]at this;simp only [Cb];rcases this with q | ⟨i,q⟩
        ·exact .inl q
        ·by_cases hi:i=id
         ·subst hi;exact absurd hw (hid i (by simp [Sd]) hok b' q)
         grind,fun _ _ _ _=>Cg.same rfl⟩ _ _ _ (fun i hi=>by have:BS i e.cs=true:=hi;rw [AQ i e.cs hpl]at this;cases this) (fun _=>rfl) k3
    grind [Ah]
   grind [Ah]
 | L_=>
   simp only [Ah]at hr;subst hr;simp only [KZ,Ah];exact⟨rfl,none,0,rfl,le_refl _,zero_le _,fun _=>trivial, .inl trivial⟩
 | _=>
   first
    | exact Ah.mono (G:=G) (G':=im av) ⟨le_refl _,fun _ _ _=>rfl,fun b hb hw=>hav b hb hw,fun _ _ _ _=>Cg.same rfl⟩ _ _ (fun i hi=>absurd (show (KZ st _).s_ i=true from hi) (by rw [H7 i _ hp];simp)) hr
theorem eT {F:Fr} {st:St} {a:Act} {w:World} {G:AG} (h:R F st a w G) {av:Nat->Prop} (hav: ∀ b,b<w.heap.size->av b->G.wr b): ∀ {cs:List C} {vs:List Value},(∀ id∈cs.flatMap Sd,st.ab6 id=true-> ∀ b,G.p_ id=some b-> ¬av b)->
 Ap (cs.map (KZ st))=true->Al w G cs vs->Al w (im av) (cs.map (KZ st)) vs
 | [],[],_,_,_=>by simp [Al]
 | [],_::_,_,_,h=>by simp [Al]at h
 | _::_,[],_,_,h=>by simp [Al]at h
 | c::cs,v::vs,hid,hp,hr=>by simp only [Al]at hr;simp only [map_cons,Ap,and_eq_true]at hp;simp only [map_cons,Al];exact⟨eR h hav (fun id hi=>hid id (by simp [hi])) hp.1 hr.1,eT h hav (fun id hi=>hid id (by simp only [flatMap_cons,List.mem_append];exact .inr hi)) hp.2 hr.2⟩
theorem eU {F:Fr} {st:St} {a:Act} {w:World} {G:AG} (h:R F st a w G) {av:Nat->Prop} (hav: ∀ b,b<w.heap.size->av b->G.wr b) {x:V} {v:Value} (hid: ∀ id∈vF x,st.ab6 id=true-> ∀ b,G.p_ id=some b-> ¬av b)
 (hp:(BC st x).pure =true) (hr:Ae w G x v):Ae w (im av) (BC st x) v:=by
 cases x with
 | c x=>simp only [BC,Ae]at hr ⊢;exact eR h hav hid (by grind [BC,V.pure]) hr
 | agg cs=>
   simp only [BC,Ae]at hr ⊢;obtain⟨arr,e,hr⟩:=hr;exact⟨arr,e,eT h hav hid (by grind [BC,V.pure]) hr⟩
 | tup vs=>exact rA hav hp hr
 | g b v'=>exact rA hav hp hr
 | undef=>simp only [BC,Ae]
def CY (xs:List V):List Ak:=xs.flatMap vF
theorem Hd {F:Fr} {st:St} {a:Act} {w:World} {G:AG} (h:R F st a w G) {av:Nat->Prop} (hav: ∀ b,b<w.heap.size->av b->G.wr b): ∀ {xs:List V} {vs:List Value},(∀ id∈CY xs,st.ab6 id=true-> ∀ b,G.p_ id=some b-> ¬av b)->
 Ci (xs.map (BC st))=true->Aq w G xs vs->Aq w (im av) (xs.map (BC st)) vs
 | [],_,_,_,h=>by simpa [Aq] using h
 | x::xs,vs,hid,hp,hr=>by
   simp only [Aq]at hr;obtain⟨v,r,rfl,h1,h2⟩:=hr;simp only [map_cons,Ci,and_eq_true]at hp;simp only [map_cons,Aq];exact⟨v,r,rfl,(by grind [eU,CY]),
    Hd h hav (fun id hi=>hid id (by simp only [CY,flatMap_cons,List.mem_append];exact .inr hi)) hp.2 h2⟩
def St.after (st:St) (ids:List Ak) (d:Option Nat) (r:V):St:=
 if r.flat then st.put d r else match ids with
  | []=>st.put d r
  | id::_=>(st.freeze id).put d r
theorem Ee {B:Nat} {w w':World} (h:Below B w w'):Ov w w':=⟨h.os,h.tape,h.output⟩
theorem FF {w w':World} (h:Below w.heap.size w w'):CX w w':=⟨h.size,fun b hb=>h.block b hb⟩
theorem R.ah_ {F:Fr} {st:St} {a:Act} {w:World} {G:AG} (h:R F st a w G) {b:Nat} (hb:G.wr b):b<w.heap.size:=by
 rw [h.wr]at hb;rcases hb with q | ⟨i,q⟩
 ·exact lt_of_lt_of_le (h.aaS b q) h.x_
 ·exact h.lt i b q
theorem R.called {F:Fr} {st:St} {a:Act} {w:World} {G:AG} (h:R F st a w G) {P:Program} {f:FuncId} {xs:List V} {us:Array Value} {Q:V->Prop} (hc:Ce P F.I f (xs.map (BC st)) Q)
 (hp:Ci (xs.map (BC st))=true) (hx:Aq w G xs us.toList) (d:Option Nat) (hfl: ∀ r,Q r->(r.flat=true\/(CY xs).length <=1/\ ∀ id∈CY xs,st.ab6 id=true)):
 Calls P f us w (fun e w'=> ∃ v r G',e= .returned v/\Q r/\R F (st.after (CY xs) d r) (a.put d v) w' G'):=by
 have hI:F.I w:=h.inv w h.x_ h.ext;by_cases hne:CY xs=[]
 ·have h1:=Hd h (av:=fun b=>G.wr b) (fun _ _ q=>q) (by grind) hp hx;refine(hc.run w us (fun b=>G.wr b) hI (fun b hb=>h.ah_ hb) h1).mono fun e w' ⟨v,r,he,hq,hpr,hr,hb⟩=>?_;refine⟨v,r,G,he,hq,?_⟩;have h2:=(h.same (Ee hb) (FF hb)).put (d:=d) (Y2 (G:=G) (fun _ _ q=>q) hpr hr);grind [St.after]
 ·
  have hav: ∀ b,b<w.heap.size->(G.wr b/\ ∀ id∈CY xs,G.p_ id ≠ some b)->G.wr b:=fun _ _ q=>q.1;have h1:=Hd h (av:=fun b=>G.wr b/\ ∀ id∈CY xs,G.p_ id ≠ some b) hav (fun id hi _ b hb hw=>hw.2 id hi hb) hp hx;refine(hc.run w us _ hI (fun b hb=>h.ah_ hb.1) h1).mono fun e w' ⟨v,r,he,hq,hpr,hr,hb⟩=>?_;by_cases hf:r.flat=true
  ·refine⟨v,r,G,he,hq,?_⟩;have h2:=(h.same (Ee hb) (FF hb)).put (d:=d) ((FW (w:=w') (G:=G) hf).2 ((FW hf).1 hr));simp_all [St.after]
  ·rcases hfl r hq with q | ⟨q1,q2⟩
   ·grind
   ·obtain⟨id,hid⟩: ∃ id,CY xs=[id]:=by
     match hh:CY xs,q1,hne with
     | [],_,hne=>grind
     | [id],_,_=>grind
    obtain⟨G',g1,g2,g3⟩:=h.freeze id;refine⟨v,r,G',he,hq,?_⟩;have g4:=g1.same (Ee hb) (FF hb);have hr':Ae w' G' r v:=(by grind [Y2]);unfold St.after;rw [if_neg hf,hid];exact g4.put hr'
end Go.PL
namespace Go.PL
open Go Go.RowKit
def ceq:C->C->Bool
 | .int _ a, .int _ b=>a==b
 | .bool a, .bool b=>a==b
 | .str a, .str b=>a==b
 | _,_=>false
def BT:List C->List C->Bool
 | [],[]=>true
 | c::cs,d::ds=>ceq c d&&BT cs ds
 | _,_=>false
theorem Oy: ∀ {a b c d:List C},a.length=b.length->BT (a++c) (b++d)=(BT a b&&BT c d)
 | [],[],c,d,_=>by simp [BT]
 | x::a,y::b,c,d,h=>by simp only [cons_append,BT,Oy (a:=a) (b:=b) (by simpa using h),Bool.and_assoc]
 | [],_::_,_,_,h=>by simp at h
 | _::_,[],_,_,h=>by simp at h
def tC (P:Program) (R:TypeId->List C->Bool) (cs:List C):Nat->List Field->Bool
 | o,[]=>o==cs.length
 | o,f::fs=>f.name != "_" &&f.offset==o&&(match KP P f.type with
   | some (ag,n)=>(ag||n==1)&&Nat.ble (o+n) cs.length&&R f.type ((cs.drop o).take n)&&tC P R cs (o+n) fs
   | none=>false)
def Xv (P:Program):Nat->TypeId->List C->Bool
 | 0,_,_=>false
 | n+1,t,cs=>match P.underlying t with
   | some .bool =>match cs with
     | [.bool _]=>true
     | _=>false
   | some (.int k)=>match cs with
     | [.int k' _]=>k==k'
     | _=>false
   | some .string =>match cs with
     | [.str _]=>true
     | _=>false
   | some (.struct fs)=> !P.stoodInHeld t&&tC P (Xv P n) cs 0 fs.toList
   | some (.array m e)=>match KP P e with
     | some (ag,k)=>(ag||k==1)&&cs.length==m*k&&(List.range m).all fun i=>Xv P n e ((cs.drop (i*k)).take k)
     | none=>false
   | _=>false
def oR (P:Program) (t:TypeId):Bool:=match P.underlying t with
 | some d=>d.isRow
 | none=>false
def zw (ag:Bool) (cs:List C):V:=if ag then .agg cs else .c (cs.getD 0 .any)
theorem Yv {ag:Bool} {o n:Nat} {cs:List C} (h0:ag=true\/n=1) (hn:o+n<=cs.length):toV ag o n cs=zw ag ((cs.drop o).take n):=by unfold toV zw;grind
section
variable {P:Program} {w:World} {G:AG}
def AcL (P:Program) (w:World) (G:AG) (d n:Nat) (t:TypeId):Prop:=
 ∀ (cs ds:List C) (x y:Value),Xv P n t cs=true->Xv P n t ds=true->Ae w G (zw (oR P t) cs) x->Ae w G (zw (oR P t) ds) y-> ∀ w',(Op.equalIn d t x y).run P w'= .ok (BT cs ds) w'
theorem Yw {t:TypeId} {ag:Bool} {n:Nat} (h:KP P t=some (ag,n)):oR P t=ag:=by grind [C9,oR]
theorem Wn {d n:Nat} (ih: ∀ t,AcL P w G d n t) {cs ds:List C} {xs ys:Array Value} (hx:Al w G cs xs.toList) (hy:Al w G ds ys.toList): ∀ (fs:List Field) (o:Nat),tC P (Xv P n) cs o fs=true->tC P (Xv P n) ds o fs=true->
 ∀ w',(Op.eqFields d xs ys fs).run P w'= .ok (BT (cs.drop o) (ds.drop o)) w'
 | [],o,h1,h2,w'=>by
   simp only [tC,beq_iff_eq]at h1 h2;have e1:cs.drop o=[]:=by grind
   have e2:ds.drop o=[]:=by grind
   rw [e1,e2];simp [Op.eqFields,BT]
 | f::fs,o,h1,h2,w'=>by
   simp only [tC,and_eq_true,bne_iff_ne,ne_eq,beq_iff_eq]at h1 h2;obtain⟨⟨hn,ho⟩,h1⟩:=h1;obtain⟨_,h2⟩:=h2;cases ht:KP P f.type with
   | none=>grind
   | some p=>
     obtain⟨ag,k⟩:=p;rw [ht]at h1 h2;simp only [and_eq_true,Bool.or_eq_true,beq_iff_eq,Nat.ble_eq]at h1 h2;obtain⟨⟨⟨h0,l1⟩,r1⟩,q1⟩:=h1;obtain⟨⟨⟨_,l2⟩,r2⟩,q2⟩:=h2;obtain⟨a,ra,pa⟩:=acs ht hx l1 (by grind);obtain⟨b,rb,pb⟩:=acs ht hy l2 (by grind);rw [Yv h0 l1, <-Yw ht]at ra;rw [Yv h0 l2, <-Yw ht]at rb;have he:=ih f.type _ _ a b r1 r2 ra rb w';have ahY:=Wn ih hx hy fs (o+k) q1 q2 w';have ajT:cs.drop o=(cs.drop o).take k++cs.drop (o+k):=by rw [<-drop_drop,take_append_drop]
     have ajS:ds.drop o=(ds.drop o).take k++ds.drop (o+k):=by rw [<-drop_drop,take_append_drop]
     rw [ajT,ajS,Oy (by simp;omega)];simp only [Op.eqFields,hn,ne_eq,not_false_eq_true,if_true,Sem.run_bind,ho,pa,pb,he,Result.andThen_ok];cases BT ((cs.drop o).take k) ((ds.drop o).take k)
     ·simp
     grind
theorem Y7 {d n:Nat} {e:TypeId} (ih:AcL P w G d n e) {cs ds:List C} {xs ys:Array Value} {ag:Bool} {k:Nat} (ht:KP P e=some (ag,k)) (h0:ag=true\/k=1) (hx:Al w G cs xs.toList) (hy:Al w G ds ys.toList): ∀ (m o:Nat),cs.length=(o+m)*k->ds.length=(o+m)*k->
 (∀ i,i<o+m->Xv P n e ((cs.drop (i*k)).take k)=true)->(∀ i,i<o+m->Xv P n e ((ds.drop (i*k)).take k)=true)->
 ∀ w',(Op.eqItems d e k xs ys ((List.range m).map (o+ ·))).run P w'= .ok (BT (cs.drop (o*k)) (ds.drop (o*k))) w'
 | 0,o,l1,l2,_,_,w'=>by
   have e1:cs.drop (o*k)=[]:=by grind
   have e2:ds.drop (o*k)=[]:=by grind
   rw [e1,e2];simp [Op.eqItems,BT]
 | m+1,o,l1,l2,a1,a2,w'=>by
   have hk:(o+(m+1))*k=o*k+k+m*k:=by grind
   have b1:o*k+k<=cs.length:=by grind
   have b2:o*k+k<=ds.length:=by grind
   obtain⟨a,ra,pa⟩:=acs ht hx b1 (h0.imp id (fun h=>by omega));obtain⟨b,rb,pb⟩:=acs ht hy b2 (h0.imp id (fun h=>by omega));rw [Yv h0 b1, <-Yw ht]at ra;rw [Yv h0 b2, <-Yw ht]at rb;have he:=ih _ _ a b (a1 o (by omega)) (a2 o (by omega)) ra rb w';have ahY:=Y7 ih ht h0 hx hy m (o+1) (by grind) (by grind) (by grind) (by grind) w';have hl:(List.range (m+1)).map (o+ ·)=o::(List.range m).map (o+1+ ·):=by rw [List.range_succ_eq_map,map_cons,map_map];simp only [add_zero,List.cons.injEq,true_and];apply List.map_congr_left;grind
   have e1:(o+1)*k=o*k+k:=by grind
   rw [e1]at ahY;have ajT:cs.drop (o*k)=(cs.drop (o*k)).take k++cs.drop (o*k+k):=by rw [<-drop_drop,take_append_drop]
   have ajS:ds.drop (o*k)=(ds.drop (o*k)).take k++ds.drop (o*k+k):=by rw [<-drop_drop,take_append_drop]
   rw [ajT,ajS,Oy (by simp;omega),hl];simp only [Op.eqItems,Sem.run_bind,pa,pb,he,Result.andThen_ok];cases BT ((cs.drop (o*k)).take k) ((ds.drop (o*k)).take k)
   ·simp
   grind
theorem iw: ∀ (n d:Nat) (t:TypeId),AcL P w G (d+n) n t
 | 0,_,_,_,_,_,_,h,_,_,_,_=>by simp [Xv]at h
 | n+1,d,t,cs,ds,x,y,h1,h2,hx,hy,w'=>by
   unfold Xv at h1 h2;cases hu:P.underlying t with
   | none=>grind
   | some kd=>
     rw [hu]at h1 h2;have hr:oR P t=kd.isRow:=by unfold oR;rw [hu]
     rw [hr]at hx hy;cases kd<;>simp only at h1 h2<;>try (cases h1;done)
     case bool=>
      split at h1<;>try (cases h1;done)
      split at h2<;>try (cases h2;done)
      simp only [zw,Ae,Ah,getD_cons_zero,TypeDesc.isRow,false_eq_true,if_false]at hx hy;subst hx hy;rw [show d+(n+1)=(d+n)+1 from rfl,run_equalIn_bool' w' (d+n) t _ _ hu];simp [BT,ceq]
     case int k=>
      split at h1<;>try (cases h1;done)
      split at h2<;>try (cases h2;done)
      simp only [beq_iff_eq]at h1 h2;subst h1;simp only [zw,Ae,Ah,getD_cons_zero,TypeDesc.isRow,false_eq_true,if_false]at hx hy;subst hx hy h2;rw [show d+(n+1)=(d+n)+1 from rfl,run_equalIn_int w' (d+n) t _ _ _ _ hu];simp [BT,ceq]
     case string=>
      split at h1<;>try (cases h1;done)
      split at h2<;>try (cases h2;done)
      simp only [zw,Ae,Ah,getD_cons_zero,TypeDesc.isRow,false_eq_true,if_false]at hx hy;subst hx hy;rw [show d+(n+1)=(d+n)+1 from rfl,run_equalIn_string w' (d+n) t _ _ hu];simp [BT,ceq,ByteArray.toList_eq]
     case struct fs=>
      simp only [and_eq_true,not_eq_true']at h1 h2;simp only [zw,TypeDesc.isRow,if_true,Ae]at hx hy;obtain⟨xs,rfl,hx⟩:=hx;obtain⟨ys,rfl,hy⟩:=hy;have hfs:P.fieldsOf t=fs:=by simp [Program.fieldsOf,hu]
      rw [show d+(n+1)=(d+n)+1 from rfl,run_equalIn_struct w' (d+n) t xs ys (by rw [hfs];exact hu) h1.1,hfs];have:=Wn (fun t=>iw n d t) hx hy fs.toList 0 h1.2 h2.2 w';grind
     case array m e=>
      cases ht:KP P e with
      | none=>grind
      | some p=>
        obtain⟨ag,k⟩:=p;rw [ht]at h1 h2;simp only [and_eq_true,Bool.or_eq_true,beq_iff_eq,List.all_eq_true,List.mem_range]at h1 h2;simp only [zw,TypeDesc.isRow,if_true,Ae]at hx hy;obtain⟨xs,rfl,hx⟩:=hx;obtain⟨ys,rfl,hy⟩:=hy;obtain⟨dd,i,_,_,hi,hsz⟩:=C9 ht;have hc:P.cellsOf e=k:=by grind [Program.cellsOf]
        rw [show d+(n+1)=(d+n)+1 from rfl,run_equalIn_array w' (d+n) xs ys hu hi];have:=Y7 (iw n d e) ht h1.1.1 hx hy m 0 (by grind) (by grind) (by grind) (by grind) w';simp_all
def oS (P:Program) (t:TypeId) (cs ds:List C):Bool:= !P.eqGuardType P.depth t&&oR P t&&Xv P 40 t cs&&Xv P 40 t ds
def kZ (P:Program) (op:BinOp) (t:TypeId) (cs ds:List C):Prop×V:=
 match op with
 | .eql =>(oS P t cs ds=true, .c (.bool (BT cs ds)))
 | .neq =>(oS P t cs ds=true, .c (.bool !(BT cs ds)))
 | _=>no
theorem oT {op:BinOp} {t:TypeId} {cs ds:List C} {u v:Value} {ox oy:Operand} (hx:Ae w G (.agg cs) u) (hy:Ae w G (.agg ds) v) (hs:(kZ P op t cs ds).1):
 ∃ r,Ae w G (kZ P op t cs ds).2 r/\ ∀ w',(do eqGuard op t ox oy u v;binOp op t u v).run P w'= .ok r w':=by
 have key:oS P t cs ds=true-> ∃ xs ys,u= .agg xs/\v= .agg ys/\(∀ w',(eqGuard op t ox oy u v).run P w'= .ok () w')/\ ∀ w',(Op.equalIn 10000 t u v).run P w'= .ok (BT cs ds) w':=by intro h;simp only [oS,and_eq_true,not_eq_true']at h;have hx':=hx;have hy':=hy;simp only [Ae]at hx' hy';obtain⟨xs,rfl,_⟩:=hx';obtain⟨ys,rfl,_⟩:=hy';refine⟨xs,ys,rfl,rfl,(by grind [run_eqGuard_agg]),fun w'=>?_⟩;exact iw (P:=P) (w:=w) (G:=G) 40 9960 t cs ds _ _ h.1.2 h.2 (by rw [h.1.1.2];exact hx) (by rw [h.1.1.2];exact hy) w'
 unfold kZ at *;split at hs
 ·obtain⟨xs,ys,rfl,rfl,h1,h2⟩:=key hs;exact⟨_,(AS rfl).2 rfl,fun w'=>by simp only [Sem.run_bind,h1,Result.andThen_ok,run_eql_struct,h2];rfl⟩
 ·obtain⟨xs,ys,rfl,rfl,h1,h2⟩:=key hs;exact⟨_,(AS rfl).2 rfl,fun w'=>by simp only [Sem.run_bind,h1,Result.andThen_ok,run_neq_struct,h2];rfl⟩
 grind
end
def tD:List C->Bool
 | []=>true
 | .int _ _::cs=>tD cs
 | .bool _::cs=>tD cs
 | .str _::cs=>tD cs
 | _::_=>false
theorem eV: ∀ {cs:List C},tD cs=true->BT cs cs=true
 | [],_=>rfl
 | c::cs,h=>by cases c<;>simp only [tD]at h<;>first | (cases h;done) | simp_all [BT,ceq,eV]
def kinds:List C->List (Option IntKind)
 | []=>[]
 | .int k _::cs=>some k::kinds cs
 | _::cs=>none::kinds cs
theorem Yx: ∀ {cs ds:List C},kinds cs=kinds ds->BT cs ds=true->cs=ds
 | [],[],_,_=>rfl
 | [],_::_,_,h=>by simp [BT]at h
 | _::_,[],_,h=>by simp [BT]at h
 | c::cs,d::ds,hk,h=>by
   simp only [BT,and_eq_true]at h;cases c<;>cases d<;>simp only [ceq,false_eq_true,false_and]at h
   ·simp only [kinds,List.cons.injEq,injEq]at hk;rw [beq_iff_eq.1 h.1,hk.1,Yx hk.2 h.2]
   ·simp only [kinds,List.cons.injEq,true_and]at hk;rw [beq_iff_eq.1 h.1,Yx hk h.2]
   ·simp only [kinds,List.cons.injEq,true_and]at hk;rw [beq_iff_eq.1 h.1,Yx hk h.2]
theorem Gt {α:Type} [DecidableEq α] (enc:α->List C) (vx:List C->α) (hd: ∀ a,vx (enc a)=a) (hs: ∀ a,tD (enc a)=true) (hk: ∀ a b,kinds (enc a)=kinds (enc b)) (a b:α):BT (enc a) (enc b)=(a==b):=by grind [eV,Yx]
def AF:C->Int
 | .int _ n=>n
 | _=>0
def Afp:C->Bool
 | .bool b=>b
 | _=>false
def oU:C->List UInt8
 | .str s=>s
 | _=>[]
structure Cn (st a_:St):Prop where
 len:a_.tm.length=st.tm.length
 tm: ∀ i,a_.tm.getD i .undef = .undef \/a_.tm.getD i .undef =st.tm.getD i .undef
 so: ∀ e∈a_.so,e∈st.so
 nd:(st.so.map (·.id)).Nodup ->(a_.so.map (·.id)).Nodup
 gh:a_.gh.length=st.gh.length/\ ∀ i,a_.gh.getD i .undef = .undef \/a_.gh.getD i .undef =st.gh.getD i .undef
 pre:a_.pre=st.pre
theorem Cn.refl (st:St):Cn st st:=⟨rfl,fun _=> .inr rfl,fun _ h=>h,id,(by grind),rfl⟩
theorem Y8 {w:World} {G:AG}: ∀ {xs ys:List V} {vs:List Value},ys.length=xs.length->(∀ i,ys.getD i .undef = .undef \/ys.getD i .undef =xs.getD i .undef)->Aq w G xs vs->Aq w G ys vs
 | [],[],_,_,_,h=>h
 | x::xs,y::ys,vs,hl,hi,h=>by
   simp only [Aq]at h ⊢;obtain⟨v,r,e,h1,h2⟩:=h;refine⟨v,r,e,?_,Y8 (by simpa using hl) (fun i=>by simpa using hi (i+1)) h2⟩;rcases hi 0 with q | q
   ·simp at q;rw [q];simp only [Ae]
   ·simp at q;rw [q];exact h1
 | [],_::_,_,hl,_,_=>by simp at hl
 | _::_,[],_,hl,_,_=>by simp at hl
theorem R.less {F:Fr} {st:St} {a:Act} {w:World} {G:AG} {a_:St} (h:R F st a w G) (hl:Cn st a_):R F a_ a w G:={
 dfr:=h.dfr
 size:=by rw [hl.len];exact h.size
 z_:=fun i=>by
  rcases hl.tm i with q | q
  ·rw [q];simp only [Ae]
  ·rw [q];exact h.z_ i
 I_:=Y8 hl.gh.1 hl.gh.2 h.I_
 store:=fun e he=>h.store e (hl.so e he)
 deep:=fun e he=>h.deep e (hl.so e he)
 B_:=fun e he=>h.B_ e (hl.so e he)
 nodup:=hl.nd h.nodup
 inj:=h.inj,lt:=h.lt,new:=h.new,wr:=h.wr,aaS:=h.aaS,inv:=h.inv,aaj:=h.aaj,os:=h.os,tape:=h.tape,output:=h.output,x_:=h.x_,ext:=h.ext}
end Go.PL
namespace Go.PL
open Go Go.RowKit
def iy:List V->Option (List C)
 | []=>some []
 | .c x::vs=>match iy vs with
   | some cs=>some (x::cs)
   | none=>none
 | _=>none
def DU (P:Program) (st:St) (g:Bool) (op:Op):Prop×V:=
 match op with
 | .build t ps=>Ox P st g t ps.toList
 | .binOp op t x y t'=>match (st.arg g x).2,(st.arg g y).2 with
   | .agg cs, .agg ds=>((st.arg g x).1/\(st.arg g y).1/\(kZ P op t cs ds).1,(kZ P op t cs ds).2)
   | _,_=>rd P st g (.binOp op t x y t')
 | .makeFunc (.func f) ⟨[]⟩ ahF=>match iy (st.args g ahF.toList).2 with
   | some cs=>((st.args g ahF.toList).1, .c (.clo f cs))
   | none=>no
 | .makeFunc (.func f) ⟨x::xs⟩ ⟨[]⟩=>match iy (st.args g (x::xs)).2 with
   | some cs=>((st.args g (x::xs)).1, .c (.bmv f cs))
   | none=>no
 | op=>rd P st g op
theorem Y9 {w:World} {G:AG}: ∀ {vs:List V} {cs:List C} {us:List Value},iy vs=some cs->Aq w G vs us->Al w G cs us
 | [],cs,us,h,hr=>by grind [iy,Aq,Al]
 | v::vs,cs,us,h,hr=>by
   unfold iy at h;split at h
   ·grind
   ·rename_i x vs' he;injection he with h1 h2;subst h1 h2;split at h
    ·rename_i cs' hcs;injection h with h;subst h;simp only [Aq,Ae]at hr;obtain⟨u,r,rfl,h1,h2⟩:=hr;simp only [Al];exact⟨h1,Y9 hcs h2⟩
    ·cases h
   ·cases h
theorem FX {P:Program} {F:Fr} {st:St} {a:Act} {w:World} {G:AG} (h:R F st a w G) {g:Bool} (hg:g=true) {o:Oper} (hs:(DU P st g o.op).1):
 ∃ v,Ae w G (DU P st g o.op).2 v/\ ∀ w',CX w w'->(execOp a.eval o).run P w'= .ok (.value v) w':=by
 unfold DU at *;split at hs
 ·rename_i t ps ho;obtain⟨v,q1,q2⟩:=iu h hg hs;exact⟨v,q1,(by simp_all [execOp])⟩
 ·rename_i op t x y t' ho;split at hs
  ·rename_i cs ds e1 e2;have hx:=h.arg hg hs.1;have hy:=h.arg hg hs.2.1;rw [e1]at hx;rw [e2]at hy;obtain⟨v,q1,q2⟩:=oT (P:=P) (op:=op) (t:=t) (ox:=x) (oy:=y) hx hy hs.2.2;refine⟨v,q1,fun w' hw'=>?_⟩;have:=q2 w';simp only [execOp,ho,Sem.run_bind]at this ⊢;simp_all
  grind [kN]
 ·rename_i f ahF ho;split at hs
  ·rename_i cs hcs;have:=Y9 hcs (h.args hg hs);refine⟨.func (.func f) #[] (ahF.map a.eval),⟨_,rfl,by simpa using this⟩,(by simp_all [execOp,Instr.makeFunc])⟩
  grind
 ·rename_i f x xs ho;split at hs
  ·rename_i cs hcs;have:=Y9 hcs (h.args hg hs);refine⟨.func (.func f) ((x::xs).map a.eval).toArray #[],⟨_,rfl,by simpa using this⟩,(by simp_all [execOp,Instr.makeFunc])⟩
  grind
 ·exact kN h hg hs
inductive Kind where
 | rd | ef | call (f:FuncId) (xs:List Operand) | cut (x:Operand) | no
def Ck:Op->Kind
 | .alloc _ | .box _ _ | .buildSlice .. | .makeSlice .. | .store .. => .ef
 | .assign (.const (.slice none 0 0))=> .ef
 | .slice _ x _ _ _=> .cut x
 | .call c=>match c.callee with
   | .builtin .append => .ef
   | .builtin .copy => .ef
   | .builtin _=> .rd
   | .value (.func f)=> .call f c.args.toList
   | _=> .no
 | _=> .rd
def St.cutAt (st:St) (g:Bool) (x:Operand):St:=
 match (st.arg g x).2 with
 | .c (.h_ id)=>st.freeze id
 | _=>st
abbrev oV (F:Fr) (K:St->Prop) (a:Act) (w:World):Prop:= ∃ a_ G',K a_/\R F a_ a w G'
def DW (P:Program) (I:World->Prop) (o:Oper) (st:St) (K:St->Prop):Prop:=
 ∀ (F:Fr) (a:Act) (w:World) (G:AG) (Q:Exit->Act->World->Prop),F.I=I->R F st a w G->o.wp P a w (oV F K) Q
def tE (P:Program) (I:World->Prop) (o:Oper) (st:St) (K:St->Prop):Prop:=
 DW P I o st K\/match Ck o.op with
 | .rd =>(DU P st true o.op).1/\K (st.put o.dst (DU P st true o.op).2)
 | .ef =>(ef P st o).1/\K (ef P st o).2
 | .call f xs=>(st.args true xs).1/\Ci ((st.args true xs).2.map (BC st))=true/\
  ∃ Q,Ce P I f ((st.args true xs).2.map (BC st)) Q/\ ∀ r,Q r->(r.flat=true\/(CY (st.args true xs).2).length <=1/\ ∀ id∈CY (st.args true xs).2,st.ab6 id=true)/\K (st.after (CY (st.args true xs).2) o.dst r)
 | .cut x=>(DU P (st.cutAt true x) true o.op).1/\K ((st.cutAt true x).put o.dst (DU P (st.cutAt true x) true o.op).2)
 | .no =>False
def I5 (st:St) (ops:Array Oper) (j:Nat) (want:Bool):Option Bool:=
 match ops[j]? with
 | some p=>match p.dst with
   | some t=>match st.get t with
     | .c (.bool b)=>some (b==want)
     | .g c (.c (.bool b))=>some (c&&(b==want))
     | _=>none
   | none=>none
 | none=>none
def wpG (P:Program) (I:World->Prop) (o:Oper) (st:St) (g:Bool) (K:St->Prop):Prop:=
 ((g=true->tE P I o st K)/\(g=false-> ∃ x a_,Cn (st.put o.dst (.g g x)) a_/\K a_))\/match Ck o.op with
 | .rd => ∃ v,(g=true->(DU P st g o.op).1/\(DU P st g o.op).2=v)/\K (st.put o.dst (.g g v))
 | .call f xs=>(g=true->(st.args g xs).1/\Ci ((st.args g xs).2.map (BC st))=true)/\
  ∃ r,(r.flat=true\/CY (st.args g xs).2=[])/\(g=true->Ce P I f ((st.args g xs).2.map (BC st)) (· =r))/\K (st.put o.dst (.g g r))
 | _=>False
def eW (P:Program) (I:World->Prop) (ops:Array Oper) (o:Oper) (st:St) (K:St->Prop):Prop:=
 match o.guard with
 | none=>tE P I o st K
 | some (j,want)=>match I5 st ops j want with
   | some g=>wpG P I o st g K
   | none=>False
def DN (P:Program) (I:World->Prop) (ops:Array Oper):List Oper->St->(St->Prop)->Prop
 | [],st,K=>K st
 | o::rest,st,K=>eW P I ops o st (fun a_=>DN P I ops rest a_ K)
def wq1 (P:Program) (I:World->Prop) (o:Oper) (st:St) (K:St->Prop):Prop:=
 match Ck o.op with
 | .rd =>(DU P st true o.op).1/\K (st.put o.dst (DU P st true o.op).2)
 | .cut _=>(DU P st true o.op).1/\K (st.put o.dst (DU P st true o.op).2)
 | .call f xs=>(st.args true xs).1/\Ci ((st.args true xs).2.map (BC st))=true/\
  ∃ r,r.flat=true/\Ce P I f ((st.args true xs).2.map (BC st)) (· =r)/\K (st.put o.dst r)
 | _=>False
def wqG (P:Program) (I:World->Prop) (o:Oper) (st:St) (g:Bool) (K:St->Prop):Prop:=
 match Ck o.op with
 | .rd => ∃ v,(g=true->(DU P st g o.op).1/\(DU P st g o.op).2=v)/\K (st.put o.dst (.g g v))
 | .cut _=> ∃ v,(g=true->(DU P st g o.op).1/\(DU P st g o.op).2=v)/\K (st.put o.dst (.g g v))
 | .call f xs=>(g=true->(st.args g xs).1/\Ci ((st.args g xs).2.map (BC st))=true)/\
  ∃ r,r.flat=true/\(g=true->Ce P I f ((st.args g xs).2.map (BC st)) (· =r))/\K (st.put o.dst (.g g r))
 | _=>False
def wqO (P:Program) (I:World->Prop) (ops:Array Oper) (o:Oper) (st:St) (K:St->Prop):Prop:=
 match o.guard with
 | none=>wq1 P I o st K
 | some (j,want)=>match I5 st ops j want with
   | some g=>wqG P I o st g K
   | none=>False
def eX (P:Program) (I:World->Prop) (ops:Array Oper):List Oper->St->(St->Prop)->Prop
 | [],st,K=>K st
 | o::rest,st,K=>wqO P I ops o st (fun a_=>eX P I ops rest a_ K)
section
variable {P:Program} {F:Fr} {st:St} {a:Act} {w:World} {G:AG} {ops:Array Oper}
theorem FY {o:Oper} (h:o.guard=none) (y:Nat->Option Bool):Region.wanted o y=true:=by simp [Region.wanted,h]
theorem JQ (h:R F st a w G) {o:Oper} {j:Nat} {want g:Bool} (hg:o.guard=some (j,want)) (hq:I5 st ops j want=some g):Region.wanted o (yielded ops a.tmps)=g:=by
 unfold I5 at hq;split at hq
 ·rename_i p hp;split at hq
  ·rename_i t ht;have hs:=h.z_ t;have hv: ∀ v:Value,v ≠ Go.undef->a.tmps.getD t Go.undef=v->a.tmps[t]? =some v:=by intro v hne he;rw [Array.getD_eq_getD_getElem?]at he;grind
   split at hq
   ·rename_i b hb;injection hq with hq;subst hq;have:st.tm.getD t .undef = .c (.bool b):=hb;grind [Ae,Ah,Go.undef,Region.wanted,yielded]
   ·rename_i c b hb;injection hq with hq;subst hq;have:st.tm.getD t .undef = .g c (.c (.bool b)):=hb;rw [this]at hs;simp only [Ae,Ah]at hs;cases c with
    | true=>
      rw [if_pos rfl]at hs;grind [Go.undef,Region.wanted,yielded]
    | false=>
      simp only [false_eq_true,if_false]at hs;have hn: ∀ x,a.tmps[t]? =some (.bool x)->False:=by intro x hx;simp_all [Go.undef]
      grind [yielded,Region.wanted]
   ·cases hq
  ·cases hq
 ·cases hq
theorem R.cutAt (h:R F st a w G) (g:Bool) (x:Operand): ∃ G',R F (st.cutAt g x) a w G':=by
 unfold St.cutAt;split
 ·obtain⟨G',q,_⟩:=h.freeze _;exact⟨G',q⟩
 grind
theorem AN {o:Oper} {v:Value} {w':World} {K:Act->World->Prop} {Q:Exit->Act->World->Prop} (hr:(execOp a.eval o).run P w= .ok (.value v) w') (h:K (a.put o.dst v) w'):o.wp P a w K Q:=by grind [Oper.wp,Oper.upon]
theorem PO (h:R F st a w G) {o:Oper} {K:St->Prop} {Q:Exit->Act->World->Prop} (hs:tE P F.I o st K):o.wp P a w (oV F K) Q:=by
 unfold tE at hs;rcases hs with hs | hs
 ·exact hs F a w G Q rfl h
 split at hs
 ·obtain⟨v,q1,q2⟩:=FX h rfl hs.1;exact AN (q2 w (CX.refl w)) ⟨_,G,hs.2,h.put q1⟩
 ·obtain⟨nx,w',G',q1,q2⟩:=(Sc h hs.1).out;unfold Oper.wp Oper.upon;grind
 ·rename_i f xs hk;obtain⟨h1,h2,Q',hc,hq⟩:=hs;have hr:(execOp a.eval o).run P w= .ok (.enter f (xs.map a.eval).toArray) w:=by
   unfold Ck at hk;split at hk<;>try (cases hk;done)
   rename_i c ho;split at hk<;>try (cases hk;done)
   rename_i f' afx;injection hk with hk1 hk2;subst hk1 hk2;simp [execOp,ho,resolve,afx,Act.eval,Deferred.ofValue,invoke,ab2 hc.ent];grind
  unfold Oper.wp Oper.upon;rw [hr];refine(h.called (us:=(xs.map a.eval).toArray) hc h2 (by simpa using h.args rfl h1) o.dst (by grind)).mono fun e w' ⟨v,r,G',he,q,hR⟩=>?_;subst he;exact⟨_,G',(hq r q).2,hR⟩
 ·rename_i x hk;obtain⟨G',hR⟩:=h.cutAt true x;obtain⟨v,q1,q2⟩:=FX hR rfl hs.1;exact AN (q2 w (CX.refl w)) ⟨_,G',hs.2,hR.put q1⟩
 grind
theorem la (h:R F st a w G) {d:Option Nat} {g:Bool} {x:V} {v:Value} (hg:g=true) (hx:Ae w G x v):R F (st.put d (.g g x)) (a.put d v) w G:=
 h.put (by simp_all [Ae])
theorem iz (h:R F st a w G) {d:Option Nat} {g:Bool} {x:V} (hg:g=false):R F (st.put d (.g g x)) (a.put d Go.undef) w G:=
 h.put (by simp [Ae,hg])
theorem Se {o:Oper} {f:FuncId} {xs:List Operand} (hk:Ck o.op= .call f xs) (he:ent P f=true) (w:World):(execOp a.eval o).run P w= .ok (.enter f (xs.map a.eval).toArray) w:=by
 unfold Ck at hk;split at hk<;>try (cases hk;done)
 rename_i c ho;split at hk<;>try (cases hk;done)
 rename_i f' afx;injection hk with hk1 hk2;subst hk1 hk2;simp [execOp,ho,resolve,afx,Act.eval,Deferred.ofValue,invoke,ab2 he];grind
theorem Za (h:R F st a w G) {f:FuncId} {g:Bool} (hg:g=true) {xs:List Operand} (h1:(st.args g xs).1) (h2:Ci ((st.args g xs).2.map (BC st))=true) {r:V} (hr:r.flat=true)
 (hc:Ce P F.I f ((st.args g xs).2.map (BC st)) (· =r)) {w':World} (ho:Ov w w') (hs:CX w w'):
 Calls P f (xs.map a.eval).toArray w' (fun e w''=>e= .returned (kX r)/\Below w'.heap.size w' w''):=by
 have hR:=h.same ho hs;have hav: ∀ b,b<w'.heap.size->(G.wr b/\ ∀ id∈CY (st.args g xs).2,G.p_ id ≠ some b)->G.wr b:=fun _ _ q=>q.1;have h3:=Hd hR (av:=fun b=>G.wr b/\ ∀ id∈CY (st.args g xs).2,G.p_ id ≠ some b) hav (by grind) h2 (by simpa using hR.args hg h1);refine(hc.run w' _ (fun b=>G.wr b/\ ∀ id∈CY (st.args g xs).2,G.p_ id ≠ some b) (hR.inv w' hR.x_ hR.ext) (fun b hb=>hR.ah_ hb.1) (by grind)).mono fun e w'' ⟨v,r',he,hq,_,hv,hb⟩=>?_;grind [FW]
theorem eY (h:R F st a w G) {o:Oper} {g:Bool} {K:St->Prop} {Q:Exit->Act->World->Prop} (hs:wpG P F.I o st g K):
 if g then o.wp P a w (oV F K) Q else oV F K (a.put o.dst Go.undef) w:=by
 unfold wpG at hs;rcases hs with hs | hs
 ·split
  ·grind [PO]
  ·rename_i hg;have hg':g=false:=by grind
   obtain⟨x,a_,h1,h2⟩:=hs.2 hg';exact⟨a_,G,h2,(iz h hg').less h1⟩
 split at hs
 ·obtain⟨x,hx,hs⟩:=hs;split
  ·rename_i hg;obtain⟨v,q1,q2⟩:=FX h hg (hx hg).1;rw [(hx hg).2]at q1;exact AN (q2 w (CX.refl w)) ⟨_,G,hs,la h hg q1⟩
  ·rename_i hg;exact⟨_,G,hs,iz h (by grind)⟩
 ·rename_i f xs hk;obtain⟨h1,r,hr,hc,hK⟩:=hs;split
  ·rename_i hg;unfold Oper.wp Oper.upon;rw [Se hk (hc hg).ent w];rcases hr with hr | hne
   rotate_left
   ·have hp:=(h1 hg).2;have h2:=Hd h (av:=fun b=>G.wr b) (fun _ _ q=>q) (by grind) hp (by simpa using h.args hg (h1 hg).1:Aq w G (st.args g xs).2 (xs.map a.eval));refine((hc hg).run w (xs.map a.eval).toArray (fun b=>G.wr b) (h.inv w h.x_ h.ext) (fun b hb=>h.ah_ hb) (by grind)).mono fun e w' ⟨v,r',he,hq,hpr,hr',hb⟩=>?_;subst he hq;exact⟨_,G,hK,la (h.same (Ee hb) (FF hb)) hg (by grind [Y2])⟩
   refine(Za h hg (h1 hg).1 (h1 hg).2 hr (hc hg) ⟨rfl,rfl,rfl⟩ (CX.refl w)).mono fun e w' ⟨he,hb⟩=>?_;subst he;exact⟨_,G,hK,la (h.same (Ee hb) (FF hb)) hg ((FW hr).2 rfl)⟩
  ·rename_i hg;exact⟨_,G,hK,iz h (by grind)⟩
 grind
theorem Wo {Q:Exit->Act->World->Prop} {K:St->Prop} (hQ: ∀ a_ a' w' G',K a_->R F a_ a' w' G'->Q .normal a' w'):
 ∀ (l:List Oper) (st:St) (a:Act) (w:World) (G:AG),R F st a w G->DN P F.I ops l st K->wpList P ops Q l a w
 | [],st,a,w,G,h,hs=>hQ st a w G hs h
 | o::rest,st,a,w,G,h,hs=>by
   refine wpList_step fun K' hK'=>?_;have ag7: ∀ a' w',oV F (fun a_=>DN P F.I ops rest a_ K) a' w'->K' a' w':=fun a' w' ⟨a_,G',q,hR⟩=>
    hK' a' w' (Wo hQ rest a_ a' w' G' hR q)
   have aty: ∀ {o:Oper},o.wp P a w (oV F (fun a_=>DN P F.I ops rest a_ K)) Q->o.wp P a w K' Q:=fun {o} hw=>by
    unfold Oper.wp Oper.upon at *;generalize (execOp a.eval o).run P w=r at *;cases r with
    | ok n w'=>
      cases n<;>simp only at hw ⊢ <;>first
       | exact ag7 _ _ hw
       | exact hw.mono fun e w'' he=>by grind
       | exact Rows.mono hw fun v w'' he=>ag7 _ _ he
       | exact hw
    | halt x w'=>grind
   simp only [DN,eW]at hs;split at hs
   ·rename_i hg;rw [FY hg,if_pos rfl];exact aty (PO h hs)
   ·rename_i j want hg;split at hs
    ·rename_i g hq;rw [JQ h hg hq];have:=eY (Q:=Q) h hs;grind
    grind
end
end Go.PL
namespace Go.PL
open Go Go.RowKit
section
variable {P:Program} {F:Fr} {st:St} {a:Act} {w:World} {G:AG} {ops:Array Oper}
def Qx (w:World) (w':World):Prop:=Ov w w'/\CX w w'
theorem Qx.below {w w' w'':World} (h:Qx w w') (hb:Below w'.heap.size w' w''):Qx w w'':=
 ⟨⟨hb.os.trans h.1.os,hb.tape.trans h.1.tape,hb.output.trans h.1.output⟩,h.2.trans (FF hb)⟩
theorem JR {o:Oper} {v:Value} {K:Act->Prop} (hr: ∀ w',CX w w'->(execOp a.eval o).run P w'= .ok (.value v) w') (h:K (a.put o.dst v)):o.quiet P a (Qx w) K:=
 ⟨v,fun w' hw'=>by unfold Oper.quietAt;rw [hr w' hw'.2];exact⟨rfl,rfl⟩,h⟩
theorem tF (h:R F st a w G) {o:Oper} {K:St->Prop} {K':Act->Prop} (hK: ∀ a_ a',K a_->R F a_ a' w G->K' a') (hs:wq1 P F.I o st K):o.quiet P a (Qx w) K':=by
 unfold wq1 at hs;split at hs
 ·obtain⟨v,q1,q2⟩:=FX h rfl hs.1;exact JR q2 (hK _ _ hs.2 (h.put q1))
 ·obtain⟨v,q1,q2⟩:=FX h rfl hs.1;exact JR q2 (hK _ _ hs.2 (h.put q1))
 ·rename_i f xs hk;obtain⟨h1,h2,r,hr,hc,hq⟩:=hs;refine⟨kX r,fun w' hw'=>?_,hK _ _ hq (h.put ((FW hr).2 rfl))⟩;unfold Oper.quietAt;rw [Se hk hc.ent w'];exact⟨rfl,(Za h rfl h1 h2 hr hc hw'.1 hw'.2).mono fun e w'' ⟨he,hb⟩=>⟨he,hw'.below hb⟩⟩
 grind
theorem tG (h:R F st a w G) {o:Oper} {g:Bool} {K:St->Prop} {K':Act->Prop} (hK: ∀ a_ a',K a_->R F a_ a' w G->K' a') (hs:wqG P F.I o st g K):
 if g then o.quiet P a (Qx w) K' else K' (a.put o.dst Go.undef):=by
 unfold wqG at hs;have avT:(∃ x,(g=true->(DU P st g o.op).1/\(DU P st g o.op).2=x)/\K (st.put o.dst (.g g x)))->if g then o.quiet P a (Qx w) K' else K' (a.put o.dst Go.undef):=by
  rintro⟨x,hx,hs⟩;split
  ·rename_i hg;obtain⟨v,q1,q2⟩:=FX h hg (hx hg).1;rw [(hx hg).2]at q1;exact JR q2 (hK _ _ hs (la h hg q1))
  ·rename_i hg;exact hK _ _ hs (iz h (by grind))
 split at hs
 ·grind
 ·grind
 ·rename_i f xs hk;obtain⟨h1,r,hr,hc,hq⟩:=hs;split
  ·rename_i hg;refine⟨kX r,fun w' hw'=>?_,hK _ _ hq (la h hg ((FW hr).2 rfl))⟩;unfold Oper.quietAt;rw [Se hk (hc hg).ent w'];exact⟨rfl,(Za h hg (h1 hg).1 (h1 hg).2 hr (hc hg) hw'.1 hw'.2).mono fun e w'' ⟨he,hb⟩=>⟨he,hw'.below hb⟩⟩
  grind
 grind
theorem Wp {Q':Act->Prop} {K:St->Prop} (hQ: ∀ a_ a',K a_->R F a_ a' w G->Q' a'):
 ∀ (l:List Oper) (st:St) (a:Act),R F st a w G->eX P F.I ops l st K->wpQuiet P ops (Qx w) Q' l a
 | [],st,a,h,hs=>hQ st a hs h
 | o::rest,st,a,h,hs=>by
   have ag7: ∀ a_ a',eX P F.I ops rest a_ K->R F a_ a' w G->wpQuiet P ops (Qx w) Q' rest a':=fun a_ a' q hR=>Wp hQ rest a_ a' hR q;simp only [eX,wqO]at hs;simp only [wpQuiet];split at hs
   ·rename_i hg;rw [FY hg,if_pos rfl];exact tF h ag7 hs
   ·rename_i j want hg;split at hs
    ·rename_i g hq;rw [JQ h hg hq];exact tG h ag7 hs
    grind
def Ag (P:Program) (F:Fr) (c:Code) (st:St) (Q:Exit->St->Prop):Prop:=
 ∀ a w G,R F st a w G->c.wp P (fun e a' w'=> ∃ a_ G',Q e a_/\R F a_ a' w' G') a w
def Cv (K:St->Prop) (Q:Exit->St->Prop):Exit->St->Prop
 | .normal,st=>K st
 | e,st=>Q e st
def Co (id:Nat) (Q:Exit->St->Prop):Exit->St->Prop
 | .exit j,st=>if j=id then Q .normal st else Q (.exit j) st
 | e,st=>Q e st
theorem Ag.seq {x y:Code} {Q:Exit->St->Prop} (h:Ag P F x st (Cv (fun a_=>Ag P F y a_ Q) Q)):Ag P F (.seq x y) st Q:=
 fun a w G hR=>wp_seq (Code.wp_mono (fun e a' w' ⟨a_,G',q,hR'⟩=>by cases e<;>simp only [Exit.then,Cv]at q ⊢ <;>first | exact q a' w' G' hR' | grind) (h a w G hR))
theorem Ag.skip {Q:Exit->St->Prop} (h:Q .normal st):Ag P F .skip st Q:=fun _ _ G hR=>wp_skip ⟨st,G,h,hR⟩
theorem Ag.ret {Q:Exit->St->Prop} (h:Q .ret st):Ag P F .ret st Q:=fun _ _ G hR=>wp_ret ⟨st,G,h,hR⟩
theorem Ag.exit {id:Nat} {Q:Exit->St->Prop} (h:Q (.exit id) st):Ag P F (.exit id) st Q:=fun _ _ G hR=>wp_exit ⟨st,G,h,hR⟩
theorem Ag.block {id:Nat} {c:Code} {Q:Exit->St->Prop} (h:Ag P F c st (Co id Q)):Ag P F (.block id c) st Q:=
 fun a w G hR=>wp_block (Code.wp_mono (fun e a' w' ⟨a_,G',q,hR'⟩=>by
  cases e<;>simp only [Exit.inBlock,Co]at q ⊢ <;>first
   | grind
   | grind) (h a w G hR))
theorem Ag.cond {c:Operand} {x y:Code} {Q:Exit->St->Prop} {b:Bool} (hc:st.ev c= .c (.bool b)) (h1:b=true->Ag P F x st Q) (h2:b=false->Ag P F y st Q):Ag P F (.cond c x y) st Q:=by
 intro a w G hR;have:=hR.ev c;rw [hc]at this;simp only [Ae,Ah]at this;refine wp_cond this ?_;cases b with
 | true=>exact h1 rfl a w G hR
 | false=>exact h2 rfl a w G hR
theorem Ag.region {id:Nat} {ops:Array Oper} {Q:Exit->St->Prop} (h:DN P F.I ops ops.toList st (Q .normal)):Ag P F (.region id ops false) st Q:=
 fun a w G hR=>wp_region_list (Wo (K:=Q .normal) (fun a_ _ _ G' q hR'=>⟨a_,G',q,hR'⟩) _ _ _ _ _ hR h)
theorem Ag.aoe {id:Nat} {ops:Array Oper} {Q:Exit->St->Prop} (h1:P.follows .mixedOrders =true) (h2:Region.lexB .any ops=true) (h:eX P F.I ops ops.toList st (Q .normal)):Ag P F (.region id ops true) st Q:=by intro a w G hR;refine wp_region_quiet (C:=Qx w) h1 h2 ⟨⟨rfl,rfl,rfl⟩,⟨le_refl _,fun _ _=>rfl⟩⟩ ?_;exact Wp (K:=Q .normal) (fun a_ a' q hR' w' hw'=>⟨a_,G,q,hR'.same hw'.1 hw'.2⟩) _ _ _ hR h
theorem Ag.mono {c:Code} {Q Q':Exit->St->Prop} (h:Ag P F c st Q) (hq: ∀ e a_,Q e a_->Q' e a_):Ag P F c st Q':=
 fun a w G hR=>Code.wp_mono (by grind) (h a w G hR)
theorem Ag.less {c:Code} {a_:St} {Q:Exit->St->Prop} (hl:Cn st a_) (h:Ag P F c a_ Q):Ag P F c st Q:=
 fun a w G hR=>h a w G (hR.less hl)
theorem Ag.loop {X:Type} (S:X->St) (inv:X->Prop) (μ:X->Nat) {c:Code} {Q:Exit->St->Prop} (x0:X) (h0:inv x0) (hl:Cn st (S x0))
 (hb: ∀ x,inv x->Ag P F c (S x) (Cv (fun a_=> ∃ y,inv y/\μ y<μ x/\Cn a_ (S y)) Q)):Ag P F (.loop c) st Q:=by
 intro a w G hR;refine wp_loop_ghost (fun n a' w'=> ∃ x G',inv x/\μ x=n/\R F (S x) a' w' G') (μ x0) ⟨x0,G,h0,rfl,hR.less hl⟩ ?_;intro n a' w' ⟨x,G',hx,hn,hR'⟩;subst hn;refine Code.wp_mono (fun e a'' w'' ⟨a_,G'',q,at0⟩=>?_) (hb x hx a' w' G' hR');cases e<;>simp only [Cv]at q
 case normal=>
  obtain⟨y,hy,hm,hl'⟩:=q;exact⟨μ y,hm,y,G'',hy,rfl,at0.less hl'⟩
 all_goals exact⟨a_,G'',q,at0⟩
end
end Go.PL
namespace Go.PL
open Go Go.RowKit
def Sf (P:Program) (st:St):ResultVar->Prop×V
 | .tmp t=>(True,BC st (st.get t))
 | .cell t T=>let r:=DM P T st (st.get t)
   (r.1,BC st r.2)
def FZ (P:Program) (st:St):List ResultVar->Prop×List V
 | []=>(True,[])
 | x::xs=>((Sf P st x).1/\(FZ P st xs).1,(Sf P st x).2::(FZ P st xs).2)
def DF (P:Program) (st:St):List ResultVar->Prop×V
 | [x]=>Sf P st x
 | xs=>((FZ P st xs).1, .tup (FZ P st xs).2)
def rC (P:Program) (fn:Func) (Q:V->Prop):Exit->St->Prop
 | .normal,st=>(DF P st fn.results.toList).1/\(DF P st fn.results.toList).2.pure =true/\Q (DF P st fn.results.toList).2
 | .ret,st=>(DF P st fn.results.toList).1/\(DF P st fn.results.toList).2.pure =true/\Q (DF P st fn.results.toList).2
 | _,_=>False
def St.start (args:List V) (n:Nat):St:={tm:=args++List.replicate (n - args.length) .undef,so:=[]}
theorem EK {w:World} {G:AG}: ∀ {xs:List V} {vs:List Value},Aq w G xs vs->xs.length=vs.length
 | [],vs,h=>by grind [Aq]
 | x::xs,vs,h=>by simp only [Aq]at h;obtain⟨v,r,rfl,_,h2⟩:=h;simp [EK h2]
def JS (I:World->Prop):Prop:= ∀ w w':World,I w->w.heap.size<=w'.heap.size->(∀ b,b<w.heap.size->w'.heap[b]? =w.heap[b]?)->I w'
theorem R.start {I:World->Prop} (hst:JS I) {w:World} (hI:I w) {vs:Array Value} {av:Nat->Prop} (hav: ∀ b,av b->b<w.heap.size) {args:List V} (h:Aq w (im av) args vs.toList) (n:Nat):
 R ⟨w,av,fun _=>False,I,[]⟩ (St.start args n) {tmps:=vs++Array.replicate (n - vs.size) Go.undef,defers:=[]} w (im av):=by
 have hl:=EK h;have hl':args.length=vs.size:=by grind
 exact {
  dfr:=rfl
  size:=by simp [St.start,hl']
  z_:=by
   intro i;simp only [St.start,List.getD_eq_getElem?_getD,Array.getD_eq_getD_getElem?];by_cases hi:i<args.length
   ·grind [Jn]
   grind [Ae]
  I_:=by simp [St.start,Aq]
  store:=by simp [St.start]
  deep:=by simp [St.start]
  B_:=by simp [St.start]
  nodup:=by simp [St.start]
  inj:=by simp [im]
  lt:=by simp [im]
  new:=by simp [im]
  wr:=by simp [im]
  aaS:=hav
  inv:=fun w' h1 h2=>hst w w' hI h1 (by grind)
  aaj:=by simp
  os:=rfl,tape:=rfl,output:=rfl,x_:=le_refl _,ext:=fun _ _ _=>rfl}
section
variable {P:Program} {F:Fr} {st:St} {a:Act} {w:World} {G:AG}
theorem R.out (h:R F st a w G) (hold: ∀ b, ¬F.old b) {x:V} {v:Value} (hp:(BC st x).pure =true) (hr:Ae w G x v):Ae w (im F.av) (BC st x) v:=by
 refine eU h (fun b _ hb=>(h.wr b).2 (.inl hb)) (fun id _ _ b hb hav=>?_) hp hr;rcases h.new id b hb with q | q
 ·have:=h.aaS b hav;omega
 grind
theorem eZ {t:TypeId} {x:V} {u:Value} (hx:Ae w G x u) (hs:(DM P t st x).1): ∃ p,u= .pointer (some p):=by
 unfold DM at hs;split at hs
 ·simp only [Ae,Ah]at hx;grind
 ·simp only [Ae,Ah]at hx;grind
 grind
def JT (tmps:Array Value):ResultVar->Sem Value
 | .tmp t=>pure (tmps.getD t Go.undef)
 | .cell a t=>do loadVar t (<-asAddr (tmps.getD a Go.undef))
theorem Zb (h:R F st a w G) (hold: ∀ b, ¬F.old b) {x:ResultVar} (hs:(Sf P st x).1) (hp:(Sf P st x).2.pure =true):
 ∃ v,(JT a.tmps x).run P w= .ok v w/\Ae w (im F.av) (Sf P st x).2 v:=by
 cases x with
 | tmp t=>exact⟨_,rfl,h.out hold hp (h.z_ t)⟩
 | cell t T=>
   simp only [Sf]at hs hp ⊢;obtain⟨v,q1,q2⟩:=Ot (P:=P) h (h.z_ t) hs;obtain⟨p,axa⟩:=eZ (h.z_ t) hs;refine⟨v,?_,h.out hold hp q1⟩;grind [CX.refl,JT,asAddr,Instr.loadAt,Instr.sureAddr]
theorem Wq (h:R F st a w G) (hold: ∀ b, ¬F.old b): ∀ {xs:List ResultVar},(FZ P st xs).1->Ci (FZ P st xs).2=true->
 ∃ vs,(xs.mapM (JT a.tmps)).run P w= .ok vs w/\Aq w (im F.av) (FZ P st xs).2 vs
 | [],_,_=>(by simp_all [FZ,Aq])
 | x::xs,hs,hp=>by simp only [FZ]at hs hp ⊢;simp only [Ci,and_eq_true]at hp;obtain⟨v,q1,q2⟩:=Zb h hold hs.1 hp.1;obtain⟨vs,k1,k2⟩:=Wq h hold hs.2 hp.2;exact⟨v::vs,by simp_all,by simp only [Aq];grind⟩
theorem F2 {fn:Func} {tmps:Array Value} {vs:List Value} (h:(fn.results.toList.mapM (JT tmps)).run P w= .ok vs w):
 (results fn tmps).run P w= .ok (match vs with | [v]=>v | vs=> .tuple vs.toArray) w:=by
 have e:fn.results.mapM (JT tmps)=List.toArray<$>fn.results.toList.mapM (JT tmps):=by obtain⟨l,hl⟩: ∃ l:List ResultVar,fn.results=l.toArray:=(by grind);grind
 have e2:results fn tmps=(do
  let vs <-fn.results.mapM (JT tmps)
  pure (if h:vs.size=1 then vs[0]else .tuple vs)):=by
  unfold results;congr 1
  all_goals (try (congr 1;funext x;cases x<;>rfl))
 rw [e2,e];simp only [Sem.run_bind,Sem.run_map,h,Result.andThen_ok]
 match vs with
 | []=>simp
 | [v]=>simp
 | v::u::vs=>simp
theorem oW (h:R F st a w G) (hold: ∀ b, ¬F.old b) {fn:Func} (hs:(DF P st fn.results.toList).1) (hp:(DF P st fn.results.toList).2.pure =true):
 ∃ v,(results fn a.tmps).run P w= .ok v w/\Ae w (im F.av) (DF P st fn.results.toList).2 v:=by
 unfold DF at *;split at hs
 ·rename_i x hx;simp only [hx]at hp ⊢;obtain⟨v,q1,q2⟩:=Zb h hold hs hp;simp_all [F2]
 ·rename_i xs hne;split at hp
  ·grind
  ·obtain⟨vs,q1,q2⟩:=Wq h hold hs (by simpa only [V.pure] using hp);refine⟨.tuple vs.toArray,?_,?_⟩
   ·have:=F2 (P:=P) (w:=w) (fn:=fn) (tmps:=a.tmps) q1;rw [this];have hl:=EK q2
    match hvs:vs with
    | []=>rfl
    | [v]=>
      exfalso;have hxl: ∀ xs:List ResultVar,(FZ P st xs).2.length =xs.length:=by intro xs;induction xs<;>grind [FZ]
      rw [hxl]at hl
      match hr:fn.results.toList,hl with
      | [x],_=>grind
    | v::u::vs=>rfl
   ·simp only [Ae];grind
theorem R.below (h:R F st a w G) (hold: ∀ b, ¬F.old b):Below F.w0.heap.size F.w0 w:=⟨h.os,h.tape,h.output,h.x_,fun b hb=>h.ext b hb (hold b)⟩
end
theorem Ce.of {P:Program} {I:World->Prop} (hst:JS I) {f:FuncId} {fn:Func} {c:Code} {args:List V} {Q:V->Prop} (abR:PL.ent P f=true) (hf:P.funcs[f]? =some fn) (hb:fn.body=some c)
 (h: ∀ F,F.I=I->Ag P F c (St.start args fn.ntmps) (rC P fn Q)):Ce P I f args Q:=by
 refine⟨abR,fun w vs av hI hav acQ=>calls_of_wp hf hb ?_⟩;have hR:=R.start hst hI hav acQ fn.ntmps;refine Code.wp_mono (fun e a' w' ⟨a_,G',q,hR'⟩=>?_) (h _ rfl _ _ _ hR);have fin:(DF P a_ fn.results.toList).1/\(DF P a_ fn.results.toList).2.pure =true/\Q (DF P a_ fn.results.toList).2->
  a'.defers=[]/\ ∃ v,(results fn a'.tmps).run P w'= .ok v w'/\(fun(e:Ending) w''=> ∃ v r,e= .returned v/\Q r/\r.pure=true/\Ae w'' (im av) r v/\Below w.heap.size w w'') (.returned v) w':=by
  intro ⟨q1,q2,q3⟩;obtain⟨v,k1,k2⟩:=oW hR' (fun _ hx=>hx) (fn:=fn) q1 q2;exact⟨hR'.dfr,v,k1,v,_,rfl,q3,q2,k2,hR'.below (fun _ hx=>hx)⟩
 cases e<;>simp only [rC]at q<;>first | exact fin q | exact q.elim
end Go.PL
namespace Go.PL
open Go Go.RowKit
section
variable {P:Program} {I:World->Prop} {F:Fr} {ops:Array Oper} {rest:List Oper} {st st1:St} {d:Option Nat} {op:Op} {ty:TypeId} {pos:String} {af:Array Edge}
variable {K:St->Prop}
theorem Co.out {Q:Exit->St->Prop} {i:Nat} (h:Q .normal st):Co i Q (.exit i) st:=by simp_all [Co]
variable {j:Nat} {want g:Bool}
theorem Ce.body (agp:JS I) {f:FuncId} {fn:Func} {c:Code} {args:List V} {Q:V->Prop} {n:Nat} {rs:List ResultVar} (abR:PL.ent P f=true) (hf:P.funcs[f]? =some fn) (hb:fn.body=some c) (hn:fn.ntmps=n) (hr:fn.results=rs.toArray)
 (hst:St.start args n=st)
 (h: ∀ w0 av old gv,Ag P ⟨w0,av,old,I,gv⟩ c st (fun e a_=>(e= .normal \/e= .ret)/\(DF P a_ rs).1/\(DF P a_ rs).2.pure =true/\Q (DF P a_ rs).2)):Ce P I f args Q:=by
 refine Ce.of agp abR hf hb (fun F hF=>?_);obtain⟨w0,av,old,I',gv⟩:=F;simp only at hF;subst hF;rw [hn,hst];refine(h w0 av old gv).mono fun e a_ ⟨he,q⟩=>?_;have:fn.results.toList=rs:=by rw [hr]
 rcases he with rfl | rfl<;>simp only [rC,this]<;>exact q
end
end Go.PL
namespace Go.PL
open Go Go.RowKit
attribute [go_sem] Ck DU rd Q_ QT St.arg St.args St.ev St.get MH Fc D3 YY QS Xt Ou BJ KQ LM LN zi dn oP C0 dm
 St.put St.after St.look St.acj St.acN St.cutAt St.freeze St.new St.kill Ax.kill St.start St.parts
 DM toV B1 JG Ch IG Hb QQ oL oM Lt KT KS MJ Ox JO V.cells Hc Xu oQ Gr Wl KX By PL.ef Sa
 I5 KZ BC Sd vF CY Ia Fa C.s_ BS V.s_ Ls C.flat V.flat Lu C.pure Ap V.pure Ci DF Sf FZ KK LS NU St.ab6
attribute [go_sem] getD_cons_zero List.getD_cons_succ List.set_cons_zero List.set_cons_succ map_cons List.map_nil List.filter_cons List.filter_nil List.find?_cons List.find?_nil
 cons_append List.nil_append List.length_cons List.length_nil List.replicate_succ List.replicate_zero List.take_succ_cons List.take_zero List.drop_succ_cons List.drop_zero flatMap_cons List.flatMap_nil List.append_nil
 List.all_cons List.all_nil Bool.and_true Bool.true_and Bool.and_false Bool.false_and Bool.or_false Bool.or_true Bool.false_or Bool.true_or
 beq_self_eq_true if_true if_false true_and and_true map_some Option.map_none List.getElem?_cons_zero List.getElem?_cons_succ
theorem AcQ {α:Type} (a b:α):(if true then a else b)=a:=rfl
theorem AcR {α:Type} (a b:α):(if false then a else b)=b:=rfl
theorem Afq:(true=true)=True:=by simp
theorem Afr:(false=true)=False:=by simp
theorem AcS (p:Prop):(true=true->p)=p:=by simp
theorem aou (b:Bool):(if b then true else false)=b:=by grind
theorem alU (b:Bool):(b==true)=b:=by simp_all
theorem akv (b:Bool):(b==false)= !b:=by grind
theorem zx (b c:Bool):(if b then c else false)=(b&&c):=by grind
theorem AcT (b c:Bool):(if b then true else c)=(b||c):=by grind
attribute [go_sem] AcQ AcR Afq Afr AcS aou alU akv zx AcT Bool.not_true Bool.not_false Bool.not_not
end Go.PL
