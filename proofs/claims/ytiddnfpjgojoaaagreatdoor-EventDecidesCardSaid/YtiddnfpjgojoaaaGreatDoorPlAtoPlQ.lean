/- The pure logic: PlA, PlB, PlC, PlD, PlE, PlF, PlG, PlH, PlI, PlJ, PlK, PlL, PlLe, PlM, PlN, PlO, PlP, PlQ. -/
import Derived.WalkKit
import Derived.WalkSpells
import Derived.WalkLawsBesides
import Derived.Deep.MidRow
import Derived.Deep.LoopGhost
import Derived.Deep.QuietTactic
import Derived.BigQuiet
import Derived.Laws.StructEq
import Derived.DeepKeys
namespace Go.PL
open Go Go.RowKit
abbrev AC:=List Nat
inductive C where
 | int (k:IntKind) (n:Int)
 | bool (b:Bool)
 | str (s:List UInt8)
 | sl (len:Nat) (cs:List C)
 | osl (id:AC)
 | ptr (id:AC) (off:Nat)
 | bsl (id:AC) (off len:Nat)
 | bld (id:AC) (T:TypeId)
 | iptr (cs:List C) (off:Nat)
 | nilp
 | niface
 | nils
 | fn (f:FuncId)
 | clo (f:FuncId) (cs:List C)
 | held
 | any
 | mref (id:AC)
 | gptr (g off:Nat)
 | bmv (f:FuncId) (cs:List C)
 | mp (kv:List (Int×Int))
 | isl (E:TypeId) (n len:Nat) (cs:List C)
inductive V where
 | c (x:C)
 | agg (cs:List C)
 | tup (vs:List V)
 | g (b:Bool) (v:V)
 | undef
structure Bp where
 blk:AC→Option Nat
 own:AC→Option Value
 wr:Nat→Prop
mutual
def C.pure:C→Bool
 | .osl _=>false
 | .ptr .. =>false
 | .bsl .. =>false
 | .bld .. =>false
 | .mref _=>false
 | .mp _=>false
 | .clo _ cs=>AJ cs
 | .bmv _ cs=>AJ cs
 | _=>true
def AJ:List C→Bool
 | []=>true
 | c::cs=>c.pure&&AJ cs
end
mutual
def As (w:World) (G:Bp):C→Value→Prop
 | .int k n,v=>v= .int k n
 | .bool b,v=>v= .bool b
 | .str s,v=>v= .string ⟨s.toArray⟩
 | .sl len cs,v=>AJ cs=true∧ ∃ a cap,v= .slice a len cap∧len≤cap∧cap≤maxLen∧(len=0→cs=[])∧
  (len=0∨ ∃ b off,a=some ⟨b,off,none⟩∧ ¬G.wr b∧b<w.heap.size∧AE w G cs b off)
 | .osl id,v=>G.own id=some v∧v.oneCell'=true
 | .ptr id off,v=> ∃ b,G.blk id=some b∧v= .pointer (some ⟨b,off,none⟩)
 | .bsl id off len,v=> ∃ b cap,G.blk id=some b∧v= .slice (some ⟨b,off,none⟩) len cap∧len≤cap
 | .bld id T,v=> ∃ b,G.blk id=some b∧(∃ cur fz,w.heap[b]? =some (.cells cur T fz))∧(v= .pointer none∨v= .pointer (some ⟨b,0,none⟩))
 | .iptr cs off,v=>AJ cs=true∧ ∃ b o,v= .pointer (some ⟨b,o+off,none⟩)∧ ¬G.wr b∧b<w.heap.size∧AE w G cs b o
 | .nilp,v=>v= .pointer none
 | .niface,v=>v= .nilIface
 | .nils,v=>v= .slice none 0 0
 | .fn f,v=>v= .func (.func f) #[] #[]
 | .clo f cs,v=> ∃ arr:Array Value,v= .func (.func f) #[] arr∧AG w G cs arr.toList
 | .bmv f cs,v=> ∃ arr:Array Value,v= .func (.func f) arr #[]∧AG w G cs arr.toList
 | .held,v=> ∃ t x,v= .iface t x
 | .any,v=>v.oneCell'=true
 | .mref id,v=> ∃ b,G.blk id=some b∧v= .map (some b)
 | .gptr g off,v=>v= .pointer (some ⟨g,off,none⟩)
 | .mp _,_=>False
 | .isl ..,v=>v.oneCell'=true
def AE (w:World) (G:Bp):List C→Nat→Nat→Prop
 | [],_,_=>True
 | c::cs,b,off=>(∃ v,w.cell? ⟨b,off,none⟩=some v∧As w G c v)∧AE w G cs b (off+1)
def AG (w:World) (G:Bp):List C→List Value→Prop
 | [],[]=>True
 | c::cs,v::vs=>As w G c v∧AG w G cs vs
 | [],_::_=>False
 | _::_,[]=>False
end
mutual
def Am (w:World) (G:Bp):V→Value→Prop
 | .c x,v=>As w G x v
 | .agg cs,v=> ∃ arr,v= .agg arr∧AG w G cs arr.toList
 | .tup vs,v=> ∃ arr,v= .tuple arr∧AO w G vs arr.toList
 | .g b x,v=>if b=true then Am w G x v else v=Go.undef
 | .undef,_=>True
def AO (w:World) (G:Bp):List V→List Value→Prop
 | [],vs=>vs=[]
 | x::xs,vs=> ∃ v r,vs=v::r∧Am w G x v∧AO w G xs r
end
mutual
def C.men (id:AC):C→Bool
 | .osl i=>i==id
 | .ptr i _=>i==id
 | .bsl i _ _=>i==id
 | .bld i _=>i==id
 | .mref i=>i==id
 | .clo _ cs=>Cw id cs
 | .bmv _ cs=>Cw id cs
 | _=>false
def Cw (id:AC):List C→Bool
 | []=>false
 | c::cs=>c.men id||Cw id cs
end
mutual
theorem LS (id:AC): ∀ c:C,c.pure=true→c.men id=false
 | .osl _,h=>by simp [C.pure]at h
 | .ptr ..,h=>by simp [C.pure]at h
 | .bsl ..,h=>by simp [C.pure]at h
 | .bld ..,h=>by simp [C.pure]at h
 | .mref ..,h=>by simp [C.pure]at h
 | .mp ..,h=>by simp [C.pure]at h
 | .isl ..,_=>by simp [C.men]
 | .gptr ..,_=>by simp [C.men]
 | .clo _ cs,h=>by simp only [C.men];exact BP id cs (by simpa only [C.pure] using h)
 | .bmv _ cs,h=>by simp only [C.men];exact BP id cs (by simpa only [C.pure] using h)
 | .sl ..,_=>by simp [C.men]
 | .iptr ..,_=>by simp [C.men]
 | .int ..,_=>by simp [C.men]
 | .bool _,_=>by simp [C.men]
 | .str _,_=>by simp [C.men]
 | .nilp,_=>by simp [C.men]
 | .niface,_=>by simp [C.men]
 | .nils,_=>by simp [C.men]
 | .fn _,_=>by simp [C.men]
 | .held,_=>by simp [C.men]
 | .any,_=>by simp [C.men]
theorem BP (id:AC): ∀ cs:List C,AJ cs=true→Cw id cs=false
 | [],_=>by simp [Cw]
 | c::cs,h=>by
   simp only [AJ,Bool.and_eq_true]at h
   simp [Cw,LS id c h.1,BP id cs h.2]
end
theorem CS: ∀ l:List C,AJ l=l.all C.pure
 | []=>rfl
 | c::l=>by simp [AJ,CS l]
theorem BN (l m:List C):AJ (l++m)=(AJ l&&AJ m):=by simp [CS]
theorem Nv {α:Type} (f:α→C) (h: ∀ x,(f x).pure =true) (l:List α):AJ (l.map f)=true:=by simp [CS,h]
theorem Od {α:Type} (f:α→List C) (h: ∀ x,AJ (f x)=true): ∀ l:List α,AJ (l.flatMap f)=true
 | []=>rfl
 | a::l=>by rw [List.flatMap_cons,BN,h,Od f h l];rfl
theorem Kk {l:List C} (n:Nat) (h:AJ l=true):AJ (l.take n)=true:=by
 rw [CS,List.all_eq_true]at *
 exact fun x hx=>h x (List.mem_of_mem_take hx)
theorem Kl {l:List C} (n:Nat) (h:AJ l=true):AJ (l.drop n)=true:=by
 rw [CS,List.all_eq_true]at *
 exact fun x hx=>h x (List.mem_of_mem_drop hx)
theorem nH {l:List C} (n:Nat) (h:AJ l=true):(l.getD n .any).pure =true:=by
 rw [List.getD_eq_getElem?_getD]
 cases hx:l[n]? with
 | none=>rfl
 | some x=>rw [CS,List.all_eq_true]at h;exact h x (List.mem_of_getElem? hx)
def Ln (S:AC→Prop) (G G':Bp):Prop:= ∀ id,S id→G'.blk id=G.blk id∧G'.own id=G.own id
def DG (w w':World) (b:Nat):Prop:= ∀ cur T fz,w.heap[b]? =some (.cells cur T fz)→ ∃ cur' fz',w'.heap[b]? =some (.cells cur' T fz')
theorem DG.same {w w':World} {b:Nat} (h:w'.heap[b]? =w.heap[b]?):DG w w' b:=fun cur _ fz q=>⟨cur,fz,h.trans q⟩
structure Fv (G G':Bp) (w w':World):Prop where
 size:w.heap.size≤w'.heap.size
 block: ∀ b,b<w.heap.size→ ¬G.wr b→w'.heap[b]? =w.heap[b]?
 wr: ∀ b,b<w.heap.size→G'.wr b→G.wr b
 ty: ∀ i b,G.blk i=some b→G'.blk i=some b→DG w w' b
mutual
theorem As.one {w:World} {G:Bp}: ∀ {c:C} {v:Value},As w G c v→v.oneCell'=true
 | .int ..,v,h=>by simp only [As]at h;subst h;rfl
 | .bool ..,v,h=>by simp only [As]at h;subst h;rfl
 | .str ..,v,h=>by simp only [As]at h;subst h;rfl
 | .sl ..,v,h=>by simp only [As]at h;obtain⟨_,a,cap,rfl,_⟩:=h;rfl
 | .osl _,v,h=>by simp only [As]at h;exact h.2
 | .ptr ..,v,h=>by simp only [As]at h;obtain⟨b,_,rfl⟩:=h;rfl
 | .bsl ..,v,h=>by simp only [As]at h;obtain⟨b,cap,_,rfl,_⟩:=h;rfl
 | .bld ..,v,h=>by simp only [As]at h;obtain⟨b,_,_,rfl | rfl⟩:=h<;>rfl
 | .iptr ..,v,h=>by simp only [As]at h;obtain⟨_,b,o,rfl,_⟩:=h;rfl
 | .nilp,v,h=>by simp only [As]at h;subst h;rfl
 | .niface,v,h=>by simp only [As]at h;subst h;rfl
 | .nils,v,h=>by simp only [As]at h;subst h;rfl
 | .fn _,v,h=>by simp only [As]at h;subst h;rfl
 | .clo ..,v,h=>by simp only [As]at h;obtain⟨arr,rfl,_⟩:=h;rfl
 | .bmv ..,v,h=>by simp only [As]at h;obtain⟨arr,rfl,_⟩:=h;rfl
 | .held,v,h=>by simp only [As]at h;obtain⟨t,x,rfl⟩:=h;rfl
 | .any,v,h=>by simp only [As]at h;exact h
 | .mref ..,v,h=>by simp only [As]at h;obtain⟨b,_,rfl⟩:=h;rfl
 | .mp ..,v,h=>by simp only [As]at h
 | .isl ..,v,h=>by simp only [As]at h;exact h
 | .gptr ..,v,h=>by simp only [As]at h;subst h;rfl
end
theorem cell?_of_block' {w w':World} {b:Nat} (h:w'.heap[b]? =w.heap[b]?) (o:Nat):w'.cell? ⟨b,o,none⟩=w.cell? ⟨b,o,none⟩:=
 World.cell?_of_block (a:=⟨b,o,none⟩) h
mutual
theorem As.mono {w w':World} {G G':Bp} (hk:Fv G G' w w'): ∀ (c:C) (v:Value),Ln (fun id=>c.men id=true) G G'→As w G c v→As w' G' c v
 | .int ..,_,_,h=>by simpa only [As] using h
 | .bool ..,_,_,h=>by simpa only [As] using h
 | .str ..,_,_,h=>by simpa only [As] using h
 | .sl len cs,v,ha,h=>by
   simp only [As]at h ⊢
   obtain⟨hp,a,cap,h1,h2,h3,h4,h5⟩:=h
   refine⟨hp,a,cap,h1,h2,h3,h4,?_⟩
   rcases h5 with h5 | ⟨b,off,e,hm,hb,hr⟩
   ·exact .inl h5
   ·exact .inr ⟨b,off,e,fun hm'=>hm (hk.wr b hb hm'),Nat.lt_of_lt_of_le hb hk.size,AE.mono hk cs b off (fun id hid=>absurd (show Cw id cs=true from hid) (by rw [BP id cs hp];simp)) (fun o=>cell?_of_block' (hk.block b hb hm) o) hr⟩
 | .osl id,v,ha,h=>by
   simp only [As]at h ⊢
   rw [(ha id (by simp [C.men])).2];exact h
 | .ptr id off,v,ha,h=>by
   simp only [As]at h ⊢
   rw [(ha id (by simp [C.men])).1];exact h
 | .bsl id off len,v,ha,h=>by
   simp only [As]at h ⊢
   rw [(ha id (by simp [C.men])).1];exact h
 | .bld id T,v,ha,h=>by
   simp only [As]at h ⊢
   obtain⟨b,h1,⟨cur,fz,h2⟩,h3⟩:=h
   have h4:G'.blk id=some b:=by rw [(ha id (by simp [C.men])).1];exact h1
   exact⟨b,h4,hk.ty id b h1 h4 cur T fz h2,h3⟩
 | .iptr cs off,v,ha,h=>by
   simp only [As]at h ⊢
   obtain⟨hp,b,o,e,hm,hb,hr⟩:=h
   exact⟨hp,b,o,e,fun hm'=>hm (hk.wr b hb hm'),Nat.lt_of_lt_of_le hb hk.size,AE.mono hk cs b o (fun id hid=>absurd (show Cw id cs=true from hid) (by rw [BP id cs hp];simp)) (fun o=>cell?_of_block' (hk.block b hb hm) o) hr⟩
 | .nilp,_,_,h=>by simpa only [As] using h
 | .niface,_,_,h=>by simpa only [As] using h
 | .nils,_,_,h=>by simpa only [As] using h
 | .fn _,_,_,h=>by simpa only [As] using h
 | .clo f cs,v,ha,h=>by
   simp only [As]at h ⊢
   obtain⟨arr,e,hr⟩:=h
   exact⟨arr,e,AG.mono hk cs _ (fun id hid=>ha id (by simpa only [C.men] using hid)) hr⟩
 | .bmv f cs,v,ha,h=>by
   simp only [As]at h ⊢
   obtain⟨arr,e,hr⟩:=h
   exact⟨arr,e,AG.mono hk cs _ (fun id hid=>ha id (by simpa only [C.men] using hid)) hr⟩
 | .held,_,_,h=>by simpa only [As] using h
 | .any,_,_,h=>by simpa only [As] using h
 | .mref id,v,ha,h=>by
   simp only [As]at h ⊢
   rw [(ha id (by simp [C.men])).1];exact h
 | .mp ..,_,_,h=>by simp only [As]at h
 | .isl ..,_,_,h=>by simpa only [As] using h
 | .gptr ..,_,_,h=>by simpa only [As] using h
theorem AE.mono {w w':World} {G G':Bp} (hk:Fv G G' w w'): ∀ (cs:List C) (b off:Nat),Ln (fun id=>Cw id cs=true) G G'→(∀ o,w'.cell? ⟨b,o,none⟩=w.cell? ⟨b,o,none⟩)→AE w G cs b off→AE w' G' cs b off
 | [],_,_,_,_,h=>by simp only [AE]
 | c::cs,b,off,ha,hc,h=>by
   simp only [AE]at h ⊢
   obtain⟨⟨v,hv,hr⟩,hrest⟩:=h
   exact⟨⟨v,by rw [hc];exact hv,As.mono hk c v (fun id hid=>ha id (by simp only [Cw,hid,Bool.true_or])) hr⟩,
    AE.mono hk cs b (off+1) (fun id hid=>ha id (by simp only [Cw,hid,Bool.or_true])) hc hrest⟩
theorem AG.mono {w w':World} {G G':Bp} (hk:Fv G G' w w'): ∀ (cs:List C) (vs:List Value),Ln (fun id=>Cw id cs=true) G G'→AG w G cs vs→AG w' G' cs vs
 | [],[],_,_=>by simp only [AG]
 | [],_::_,_,h=>by simp only [AG]at h
 | _::_,[],_,h=>by simp only [AG]at h
 | c::cs,v::vs,ha,h=>by
   simp only [AG]at h ⊢
   exact⟨As.mono hk c v (fun id hid=>ha id (by simp only [Cw,hid,Bool.true_or])) h.1,
    AG.mono hk cs vs (fun id hid=>ha id (by simp only [Cw,hid,Bool.or_true])) h.2⟩
end
mutual
def V.men (id:AC):V→Bool
 | .c x=>x.men id
 | .agg cs=>Cw id cs
 | .tup vs=>LN id vs
 | .g b v=>v.men id&&b
 | .undef =>false
def LN (id:AC):List V→Bool
 | []=>false
 | v::vs=>v.men id||LN id vs
end
mutual
theorem Am.mono {w w':World} {G G':Bp} (hk:Fv G G' w w'): ∀ (x:V) (v:Value),Ln (fun id=>x.men id=true) G G'→Am w G x v→Am w' G' x v
 | .c x,v,ha,h=>by simp only [Am]at h ⊢;exact As.mono hk x v (by simpa only [V.men] using ha) h
 | .agg cs,v,ha,h=>by
   simp only [Am]at h ⊢
   obtain⟨arr,e,hr⟩:=h
   exact⟨arr,e,AG.mono hk cs _ (by simpa only [V.men] using ha) hr⟩
 | .tup vs,v,ha,h=>by
   simp only [Am]at h ⊢
   obtain⟨arr,e,hr⟩:=h
   exact⟨arr,e,AO.mono hk vs _ (by simpa only [V.men] using ha) hr⟩
 | .g b x,v,ha,h=>by
   simp only [Am]at h ⊢
   split
   ·rename_i hb;rw [if_pos hb]at h;exact Am.mono hk x v (fun id hid=>ha id (by simp only [V.men,hb,hid,Bool.and_self])) h
   ·rename_i hb;rw [if_neg hb]at h;exact h
 | .undef,_,_,_=>by simp only [Am]
theorem AO.mono {w w':World} {G G':Bp} (hk:Fv G G' w w'): ∀ (xs:List V) (vs:List Value),Ln (fun id=>LN id xs=true) G G'→AO w G xs vs→AO w' G' xs vs
 | [],_,_,h=>by simpa only [AO] using h
 | x::xs,vs,ha,h=>by
   simp only [AO]at h ⊢
   obtain⟨v,r,e,h1,h2⟩:=h
   exact⟨v,r,e,Am.mono hk x v (fun id hid=>ha id (by simp only [LN,hid,Bool.true_or])) h1,
    AO.mono hk xs r (fun id hid=>ha id (by simp only [LN,hid,Bool.or_true])) h2⟩
end
theorem AG.one {w:World} {G:Bp}: ∀ {cs:List C} {vs:List Value},AG w G cs vs→ ∀ v∈vs,v.oneCell'=true
 | [],[],_,v,hv=>by cases hv
 | [],_::_,h,_,_=>by simp only [AG]at h
 | _::_,[],h,_,_=>by simp only [AG]at h
 | c::cs,v::vs,h,u,hu=>by
   simp only [AG]at h
   rcases List.mem_cons.1 hu with rfl | hu
   ·exact As.one h.1
   ·exact AG.one h.2 u hu
theorem AE.of_list {w:World} {G:Bp}: ∀ {cs:List C} {vs:List Value} {b off:Nat},AG w G cs vs→w.rangeAt b off vs→AE w G cs b off
 | [],[],b,off,_,_=>by simp only [AE]
 | [],_::_,_,_,h,_=>by simp only [AG]at h
 | _::_,[],_,_,h,_=>by simp only [AG]at h
 | c::cs,v::vs,b,off,h,hr=>by
   simp only [AG]at h
   simp only [AE]
   refine⟨⟨v,by simpa using hr 0 v (by simp),h.1⟩,AE.of_list h.2 (fun j u hu=>?_)⟩
   have:=hr (j+1) u (by simpa using hu)
   rw [show off+1+j=off+(j+1) by omega];exact this
end Go.PL
namespace Go.PL
open Go Go.RowKit
structure AY where
 id:AC
 row:Option (TypeId×Nat×Nat)
 cs:List C
 pu:Bool:=false
structure St where
 tm:List V
 so:List AY
 gh:List V:=[]
 pre:AC:=[]
structure Fr where
 w0:World
 av:Nat→Prop
 old:Nat→Prop
 I:World→Prop
 gv:List Value:=[]
def xe (kv:List (Int×Int)) (es:List MapEntry):Prop:=
 es=kv.zipIdx.map fun p=>⟨.int .i64 p.1.1, .int .i64 p.1.2,p.2⟩
def pH (w:World) (G:Bp) (cs:List C) (b:Nat):Prop:=
 (∃ kv es,cs=[.mp kv]∧w.heap[b]? =some (.map es kv.length)∧xe kv es.toList∧(kv.map (·.1)).Nodup)∨
 (∃ T cur,w.heap[b]? =some (.cells cur T (0,0))∧cur.size=cs.length∧AE w G cs b 0)
def bt:List C→Bool
 | [.mp _]=>true
 | _=>false
theorem pH.cells {w:World} {G:Bp} {cs:List C} {b:Nat} (h:pH w G cs b) (hn:bt cs=false): ∃ T cur,w.heap[b]? =some (.cells cur T (0,0))∧cur.size=cs.length∧AE w G cs b 0:=by
 rcases h with ⟨kv,es,rfl,_⟩ | h
 ·cases hn
 ·exact h
def Ck (w:World) (G:Bp) (e:AY):Prop:=
 match e.row with
 | none=> ∃ b,G.blk e.id=some b∧pH w G e.cs b
 | some (E,n,len)=>e.cs.length=len*n∧ ∃ v,G.own e.id=some v∧
  ((∃ p,v= .slice p 0 0∧len=0∧G.blk e.id=none)∨
   ∃ b cap cur,v= .slice (some ⟨b,0,none⟩) len cap∧G.blk e.id=some b∧w.heap[b]? =some (.cells cur E (0,0))∧len≤cap∧cap≤maxLen∧cur.size=cap*n∧AE w G e.cs b 0)
def Fs:AC→Bool
 | []=>false
 | d::_=>Nat.beq d 1000007
def Lo:AC→Bool
 | []=>false
 | d::_=>Nat.beq d 1000003
def CM (k:Nat) (id:AC):AC:=1000007::k::id
theorem Vv {k j:Nat} {a b:AC} (h:CM k a=CM j b):k=j∧a=b:=by
 unfold CM at h
 injection h with _ h
 injection h with h1 h2
 exact⟨h1,h2⟩
theorem pI (k:Nat) (id:AC):Fs (CM k id)=true:=rfl
def GV (w:World) (G:Bp) (e:AY):Prop:=
 ∀ k E n len cs,e.cs[k]? =some (.isl E n len cs)→AJ cs=true∧Ck w G ⟨CM k e.id,some (E,n,len),cs,true⟩∧
   ∃ b v,G.blk e.id=some b∧w.cell? ⟨b,k,none⟩=some v∧G.own (CM k e.id)=some v
def DA (w:World) (G:Bp) (e:AY):Prop:=Fs e.id=false∧(Lo e.id=true→e.pu=true∧e.row.isSome=true∧GV w G e)
structure R (F:Fr) (st:St) (a:Act) (w:World) (G:Bp):Prop where
 dfr:a.defers=[]
 size:a.tmps.size=st.tm.length
 slots: ∀ i,Am w G (st.tm.getD i .undef) (a.tmps.getD i Go.undef)
 ghosts:AO w G st.gh F.gv
 store: ∀ e∈st.so,Ck w G e
 deep: ∀ e∈st.so,DA w G e
 pures: ∀ e∈st.so,e.pu=true→AJ e.cs=true
 nodup:(st.so.map (·.id)).Nodup
 inj: ∀ i j b,G.blk i=some b→G.blk j=some b→i=j
 lt: ∀ i b,G.blk i=some b→b<w.heap.size
 new: ∀ i b,G.blk i=some b→F.w0.heap.size≤b∨F.old b
 wr: ∀ b,G.wr b↔F.av b∨ ∃ i,G.blk i=some b
 avlt: ∀ b,F.av b→b<F.w0.heap.size
 inv: ∀ w',F.w0.heap.size≤w'.heap.size→(∀ b,b<F.w0.heap.size→ ¬F.old b→w'.heap[b]? =F.w0.heap[b]?)→F.I w'
 avold: ∀ b,F.old b→ ¬F.av b
 os:w.os=F.w0.os
 tape:w.tape=F.w0.tape
 output:w.output=F.w0.output
 hsize:F.w0.heap.size≤w.heap.size
 ext: ∀ b,b<F.w0.heap.size→ ¬F.old b→w.heap[b]? =F.w0.heap[b]?
def St.get (st:St) (t:Nat):V:=st.tm.getD t .undef
def St.put (st:St) (d:Option Nat) (v:V):St:=
 match d with
 | some d=>{st with tm:=st.tm.set d v}
 | none=>st
def GF:Value→Option C
 | .int k n=>some (.int k n)
 | .bool b=>some (.bool b)
 | .string s=>some (.str s.data.toList)
 | .pointer none=>some .nilp
 | .nilIface =>some .niface
 | .slice none 0 0=>some (.sl 0 [])
 | .map none=>some .any
 | _=>none
def Ek:List Value→Option (List C)
 | []=>some []
 | v::vs=>match GF v,Ek vs with
   | some c,some cs=>some (c::cs)
   | _,_=>none
def Km:Value→V
 | .agg cs=>match Ek cs.toList with
   | some l=> .agg l
   | none=> .undef
 | v=>match GF v with
   | some c=> .c c
   | none=> .undef
def St.ev (st:St):Operand→V
 | .tmp t=>st.get t
 | .const v=>Km v
 | .func f=> .c (.fn f)
 | .global _=> .undef
def St.arg (st:St) (g:Bool) (x:Operand):Prop×V:=
 match st.ev x with
 | .g c v=>(g=true→c=true,v)
 | v=>(True,v)
theorem OQ {w:World} {G:Bp}: ∀ {v:Value} {c:C},GF v=some c→As w G c v:=by
 intro v c h
 unfold GF at h
 split at h<;>first | (cases h;done) | (injection h with h;subst h;simp [As];try rfl)
 ·exact⟨rfl,none,0,⟨rfl,rfl⟩,by simp [maxLen]⟩
theorem Kn {w:World} {G:Bp}: ∀ {vs:List Value} {cs:List C},Ek vs=some cs→AG w G cs vs
 | [],cs,h=>by simp [Ek]at h;subst h;simp [AG]
 | v::vs,cs,h=>by
   unfold Ek at h
   split at h
   ·rename_i c cs' h1 h2
    injection h with h;subst h
    simp only [AG]
    exact⟨OQ h1,Kn h2⟩
   ·cases h
theorem bu {w:World} {G:Bp} (v:Value):Am w G (Km v) v:=by
 unfold Km
 split
 ·split
  ·rename_i h;simp only [Am];exact⟨_,rfl,Kn h⟩
  ·simp only [Am]
 ·split
  ·rename_i h;simp only [Am];exact OQ h
  ·simp only [Am]
theorem R.ev {F:Fr} {st:St} {a:Act} {w:World} {G:Bp} (h:R F st a w G) (x:Operand):Am w G (st.ev x) (a.eval x):=by
 cases x with
 | tmp t=>exact h.slots t
 | const v=>exact bu v
 | func f=>simp [St.ev,Act.eval,Am,As]
 | global g=>simp [St.ev,Am]
theorem R.arg {F:Fr} {st:St} {a:Act} {w:World} {G:Bp} (h:R F st a w G) {g:Bool} (hg:g=true) {x:Operand} (hs:(st.arg g x).1):Am w G (st.arg g x).2 (a.eval x):=by
 have:=h.ev x
 unfold St.arg at *
 split at hs
 ·rename_i c v he
  rw [he]at this
  simp only [Am]at this
  rw [if_pos (hs hg)]at this
  simpa [he] using this
 ·exact this
def Oe (P:Program) (t:TypeId):Option (Bool×Nat):=
 match P.underlying t,P.info? t with
 | some d,some i=>some (d.isRow,i.size)
 | _,_=>none
def Em (P:Program) (t:TypeId):Option (TypeId×Nat):=
 match P.underlying t with
 | some (.slice e)=>match P.info? e with
   | some i=>some (e,i.size)
   | none=>none
 | _=>none
def F9 (P:Program) (t:TypeId):Option (Nat×TypeId×Nat):=
 match P.underlying t with
 | some (.array n e)=>match P.info? e with
   | some i=>some (n,e,i.size)
   | none=>none
 | _=>none
def pJ (P:Program) (t:TypeId) (f:Nat):Option (Nat×Bool×Nat):=
 match P.underlying t with
 | some (.struct fs)=>match fs[f]? with
   | some x=>match Oe P x.type with
     | some (ag,n)=>some (x.offset,ag,n)
     | none=>none
   | none=>none
 | _=>none
def EJ (P:Program) (t:TypeId):Bool:=
 match P.underlying t with
 | some .string =>true
 | _=>false
theorem En {P:Program} {t:TypeId} {ag:Bool} {n:Nat} (h:Oe P t=some (ag,n)): ∃ d i,P.underlying t=some d∧d.isRow=ag∧P.info? t=some i∧i.size=n:=by
 unfold Oe at h
 split at h
 ·rename_i d i h1 h2;simp only [Option.some.injEq,Prod.mk.injEq]at h;exact⟨d,i,h1,h.1,h2,h.2⟩
 ·cases h
theorem OR {P:Program} {t e:TypeId} {n:Nat} (h:Em P t=some (e,n)):P.underlying t=some (.slice e)∧ ∃ i,P.info? e=some i∧i.size=n:=by
 unfold Em at h
 split at h
 ·rename_i d h1
  split at h
  ·rename_i i h2;simp only [Option.some.injEq,Prod.mk.injEq]at h;obtain⟨rfl,h⟩:=h;exact⟨h1,i,h2,h⟩
  ·cases h
 ·cases h
theorem Ko {P:Program} {t e:TypeId} {k n:Nat} (h:F9 P t=some (k,e,n)):P.underlying t=some (.array k e)∧ ∃ i,P.info? e=some i∧i.size=n:=by
 unfold F9 at h
 split at h
 ·rename_i m d h1
  split at h
  ·rename_i i h2;simp only [Option.some.injEq,Prod.mk.injEq]at h;obtain⟨rfl,rfl,h⟩:=h;exact⟨h1,i,h2,h⟩
  ·cases h
 ·cases h
structure Ft (w w':World):Prop where
 size:w.heap.size≤w'.heap.size
 block: ∀ b,b<w.heap.size→w'.heap[b]? =w.heap[b]?
theorem Ft.refl (w:World):Ft w w:=⟨Nat.le_refl _,fun _ _=>rfl⟩
theorem Ft.trans {a b c:World} (h:Ft a b) (k:Ft b c):Ft a c:=
 ⟨Nat.le_trans h.size k.size,fun x hx=>(k.block x (Nat.lt_of_lt_of_le hx h.size)).trans (h.block x hx)⟩
theorem Ft.cell {w w':World} (h:Ft w w') {p:Addr} {v:Value} (hv:w.cell? p=some v):w'.cell? p=some v:=by
 have hb:p.block<w.heap.size:=World.block_lt_of_cell? w p hv
 rw [World.cell?_of_block (h.block p.block hb)];exact hv
theorem Ft.range {w w':World} (h:Ft w w') {b o:Nat} {vs:List Value} (hv:w.rangeAt b o vs):w'.rangeAt b o vs:=
 fun j v hj=>h.cell (hv j v hj)
def AY.isM (e:AY):Bool:=match e.row with
 | none=>bt e.cs
 | some _=>false
def St.look (st:St) (id:AC):Option AY:=st.so.find? (fun e=>e.id==id&& !(e.isM||Lo e.id))
def St.lookR (st:St) (id:AC):Option AY:=st.so.find? (fun e=>e.id==id&& !e.isM)
theorem RO {st:St} {id:AC} {e:AY} (h:st.lookR id=some e):e∈st.so∧e.id=id:=
 ⟨List.mem_of_find?_eq_some h,by have:=List.find?_some h;simp only [Bool.and_eq_true,beq_iff_eq]at this;exact this.1⟩
theorem pK {st:St} {id:AC} {e:AY} (h:st.lookR id=some e) (hr:e.row=none):bt e.cs=false:=by
 have:=List.find?_some h;simp only [Bool.and_eq_true,Bool.not_eq_true']at this
 have h2:=this.2
 unfold AY.isM at h2
 rw [hr]at h2;exact h2
theorem Ct {st:St} {id:AC} {e:AY} (h:st.look id=some e):e∈st.so∧e.id=id:=
 ⟨List.mem_of_find?_eq_some h,by have:=List.find?_some h;simp only [Bool.and_eq_true,beq_iff_eq]at this;exact this.1⟩
theorem Vw {st:St} {id:AC} {e:AY} (h:st.look id=some e) (hr:e.row=none):bt e.cs=false:=by
 have:=List.find?_some h;simp only [Bool.and_eq_true,Bool.not_eq_true',Bool.or_eq_false_iff]at this
 have h2:=this.2.1
 unfold AY.isM at h2
 rw [hr]at h2;exact h2
theorem PM {st:St} {id:AC} {e:AY} (h:st.look id=some e):Lo id=false:=by
 have h1:=(Ct h).2
 have:=List.find?_some h;simp only [Bool.and_eq_true,Bool.not_eq_true',Bool.or_eq_false_iff]at this
 rw [←h1];exact this.2.2
theorem Ck.row {w:World} {G:Bp} {e:AY} (h:Ck w G e) (hnm:e.row=none→bt e.cs=false) {b:Nat} (hb:G.blk e.id=some b):
 ∃ cur T,w.heap[b]? =some (.cells cur T (0,0))∧e.cs.length≤cur.size∧AE w G e.cs b 0:=by
 unfold Ck at h
 split at h
 ·rename_i hrn
  obtain⟨b',h1,hbx⟩:=h
  obtain⟨T,cur,h2,h3,h4⟩:=hbx.cells (hnm hrn)
  rw [hb]at h1;injection h1 with h1;subst h1
  exact⟨cur,T,h2,by omega,h4⟩
 ·obtain⟨hl,v,h1,h2 | ⟨b',cap,cur,e1,e2,e3,e4,e5,e6,e7⟩⟩:=h
  ·obtain⟨p,_,_,h2⟩:=h2;rw [h2]at hb;cases hb
  ·rw [hb]at e2;injection e2 with e2;subst e2
   exact⟨cur,_,e3,by rw [hl,e6];exact Nat.mul_le_mul_right _ e4,e7⟩
def toV (ag:Bool) (off n:Nat) (cs:List C):V:=if ag then .agg ((cs.drop off).take n)else .c (cs.getD off .any)
def Eo (P:Program) (t:TypeId) (st:St):V→Prop×V
 | .c (.ptr id off)=>match Oe P t,st.lookR id with
   | some (ag,n),some e=>(off+n≤e.cs.length∧(ag=true∨0<n),toV ag off n e.cs)
   | _,_=>(False, .undef)
 | .c (.iptr cs off)=>match Oe P t with
   | some (ag,n)=>(off+n≤cs.length∧(ag=true∨0<n),toV ag off n cs)
   | _=>(False, .undef)
 | _=>(False, .undef)
theorem Jc {P:Program} {w:World} {b o:Nat} {ty:TypeId} {v:Value} {d:TypeDesc} (hu:P.underlying ty=some d) (hd:d.isRow=false) (hc:w.cell? ⟨b,o,none⟩=some v):
 (Instr.loadAt ty (.pointer (some ⟨b,o,none⟩))).run P w= .ok v w:=by
 have hagg:(isAgg ty).run P w= .ok false w:=by
  unfold isAgg
  rw [Sem.run_bind,run_underlying hu w]
  cases d<;>simp_all
 simp [Instr.loadAt,Instr.sureAddr,loadVar,Sem.run_bind,hagg,load,Sem.run,hc]
theorem VQ {P:Program} {w:World} {G:Bp} {cs:List C} {b o off n:Nat} {ty:TypeId} {ag:Bool} (hr:AE w G cs b o) (ht:Oe P ty=some (ag,n)) (hn:off+n≤cs.length) (h0:ag=true∨0<n):
 ∃ v,Am w G (toV ag off n cs) v∧ ∀ w',Ft w w'→(Instr.loadAt ty (.pointer (some ⟨b,o+off,none⟩))).run P w'= .ok v w':=by
 obtain⟨d,i,hu,hd,hi,hsz⟩:=En ht
 obtain⟨vs,h1,h2⟩:=hr.list
 unfold toV
 cases hag:ag with
 | true=>
   refine⟨.agg ((vs.drop off).take n).toArray,?_,fun w' hw'=>?_⟩
   ·exact⟨_,rfl,by simpa using (h1.drop off).take n⟩
   ·refine run_loadAt_mid w' b (o+off) ty ((vs.drop off).take n) d ?_ hu (by rw [hd,hag]) ?_
    ·intro j v hv
     rw [List.getElem?_take]at hv
     split at hv
     ·rw [List.getElem?_drop]at hv
      have:=(hw'.range h2) _ v hv
      rw [show o+off+j=o+(off+j) by omega];exact this
     ·cases hv
    ·simp [hi,hsz, ←h1.length];omega
 | false=>
   have hn0:0<n:=by rcases h0 with h | h; · rw [hag]at h;cases h
                    ·exact h
   have hlt:off<cs.length:=by omega
   obtain⟨v,hv,hr'⟩:=h1.get off cs[off] (by simp [hlt])
   refine⟨v,?_,fun w' hw'=>?_⟩
   ·simpa [Am,List.getD_eq_getElem?_getD,hlt] using hr'
   ·exact Jc hu (by rw [hd,hag]) (by simpa using (hw'.range h2) off v hv)
theorem LT {P:Program} {F:Fr} {st:St} {a:Act} {w:World} {G:Bp} (h:R F st a w G) {t:TypeId} {x:V} {u:Value} (hx:Am w G x u) (hs:(Eo P t st x).1):
 ∃ v,Am w G (Eo P t st x).2 v∧ ∀ w',Ft w w'→(Instr.loadAt t u).run P w'= .ok v w':=by
 unfold Eo at *
 split at hs
 ·rename_i id off
  split at hs
  ·rename_i ag n e ht he
   simp only [Am,As]at hx
   obtain⟨b,hb,rfl⟩:=hx
   obtain⟨hm,hid⟩:=RO he
   obtain⟨cur,T,_,_,hrow⟩:=(h.store e hm).row (pK he) (by rw [hid];exact hb)
   have:=VQ (P:=P) hrow ht hs.1 hs.2
   simpa using this
  ·exact hs.elim
 ·rename_i cs off
  split at hs
  ·rename_i ag n ht
   simp only [Am,As]at hx
   obtain⟨_,b,o,rfl,_,_,hrow⟩:=hx
   exact VQ (P:=P) hrow ht hs.1 hs.2
  ·exact hs.elim
 ·exact hs.elim
end Go.PL
namespace Go.PL
open Go Go.RowKit
def RP (P:Program) (t:TypeId):Bool:=
 match P.underlying t with
 | some .bool =>true
 | _=>false
def em (k:IntKind) (a b:Int):Int:=k.wrap (BitVec.ofInt k.bits a&&& BitVec.ofInt k.bits b).toNat
def eo (k:IntKind) (a b:Int):Int:=k.wrap (BitVec.ofInt k.bits a||| BitVec.ofInt k.bits b).toNat
def jf (k:IntKind) (a b:Int):Int:=k.wrap (BitVec.ofInt k.bits a ^^^ BitVec.ofInt k.bits b).toNat
def Vx (k:IntKind) (a b:Int):Int:=k.wrap (BitVec.ofInt k.bits a&&& ~~~ BitVec.ofInt k.bits b).toNat
def Iy (op:BinOp) (k:IntKind) (a b:Int):Prop×C:=
 match op with
 | .add =>(True, .int k (k.wrap (a+b)))
 | .sub =>(True, .int k (k.wrap (a - b)))
 | .mul =>(True, .int k (k.wrap (a*b)))
 | .quo =>(b ≠ 0, .int k (k.wrap (a.tdiv b)))
 | .rem =>(b ≠ 0, .int k (a.tmod b))
 | .and =>(True, .int k (em k a b))
 | .or =>(True, .int k (eo k a b))
 | .xor =>(True, .int k (jf k a b))
 | .andNot =>(True, .int k (Vx k a b))
 | .shl =>(0≤b, .int k (k.wrap (a*2 ^ (min b.toNat k.bits))))
 | .shr =>(0≤b, .int k (a.fdiv (2 ^ (min b.toNat k.bits))))
 | .eql =>(True, .bool (a==b))
 | .neq =>(True, .bool (a != b))
 | .lss =>(True, .bool (decide (a<b)))
 | .leq =>(True, .bool (decide (a≤b)))
 | .gtr =>(True, .bool (decide (b<a)))
 | .geq =>(True, .bool (decide (b≤a)))
def JC (op:BinOp) (a b:List UInt8):Prop×C:=
 match op with
 | .add =>(a.length+b.length≤maxLen, .str (a++b))
 | .eql =>(True, .bool (a==b))
 | .neq =>(True, .bool (a != b))
 | .lss =>(True, .bool (Op.bytesLess a b))
 | .leq =>(True, .bool (Op.bytesLess a b||a==b))
 | .gtr =>(True, .bool (!(Op.bytesLess a b||a==b)))
 | .geq =>(True, .bool (!Op.bytesLess a b))
 | _=>(False, .any)
def JD (op:BinOp) (k k':IntKind):Prop:=
 match op with
 | .shl | .shr =>True
 | _=>k=k'
def Iz (P:Program) (t:TypeId):Bool:=
 match P.underlying t with
 | some (.interface _)=>true
 | _=>false
def TL (P:Program) (t:TypeId):Bool:=
 match P.underlying t with
 | some (.pointer _)=>true
 | _=>false
def Of (op:BinOp) (b:Bool) (s:Prop):Prop×V:=
 match op with
 | .eql =>(s, .c (.bool b))
 | .neq =>(s, .c (.bool !b))
 | _=>(False, .undef)
def BQ:Operand→Bool
 | .const _=>true
 | _=>false
def UV (P:Program) (op:BinOp) (t:TypeId) (k:Bool):V→V→Prop×V
 | .c (.int k a), .c (.int k' b)=>(JD op k k'∧(Iy op k a b).1, .c (Iy op k a b).2)
 | .c (.str a), .c (.str b)=>((JC op a b).1, .c (JC op a b).2)
 | .c (.bool a), .c (.bool b)=>match op with
   | .eql =>(RP P t=true, .c (.bool (a==b)))
   | .neq =>(RP P t=true, .c (.bool (a != b)))
   | _=>(False, .undef)
 | .c .niface, .c .niface =>Of op true (k=true∧Iz P t=true)
 | .c .held, .c .niface =>Of op false (Iz P t=true)
 | .c (.ptr _ _), .c .nilp =>Of op false (TL P t=true)
 | .c .nilp, .c .nilp =>Of op true (TL P t=true)
 | _,_=>(False, .undef)
theorem PN {P:Program} {t:TypeId} (h:Iz P t=true): ∃ ms,P.underlying t=some (.interface ms):=by
 unfold Iz at h;split at h
 ·rename_i ms hm;exact⟨ms,hm⟩
 ·cases h
theorem VR {P:Program} {t:TypeId} (h:TL P t=true): ∃ e,P.underlying t=some (.pointer e):=by
 unfold TL at h;split at h
 ·rename_i ms hm;exact⟨ms,hm⟩
 ·cases h
theorem TM {P:Program} {t:TypeId} (h:RP P t=true):P.underlying t=some .bool :=by
 unfold RP at h;split at h<;>simp_all
theorem Fy {P:Program} {t:TypeId} (h:EJ P t=true):P.underlying t=some .string :=by
 unfold EJ at h;split at h<;>simp_all
theorem jg (a:List UInt8):(⟨a.toArray⟩:ByteArray).size =a.length:=by simp [ByteArray.size]
def Hv:C→Value
 | .int k n=> .int k n
 | .bool b=> .bool b
 | .str s=> .string ⟨s.toArray⟩
 | .nilp => .pointer none
 | .niface => .nilIface
 | .fn f=> .func (.func f) #[] #[]
 | _=>Go.undef
def C.flat:C→Bool
 | .int .. | .bool _ | .str _ | .nilp | .niface | .fn _=>true
 | _=>false
theorem Bl {w:World} {G:Bp} {c:C} (hc:c.flat=true) {v:Value}:As w G c v↔v=Hv c:=by
 cases c<;>simp_all [C.flat,As,Hv]
theorem Zp {P:Program} {op:BinOp} {t:TypeId} {k k':IntKind} {x y:Int} {ox oy:Operand} (h1:JD op k k') (h2:(Iy op k x y).1) (w:World):
 (do eqGuard op t ox oy (.int k x) (.int k' y);binOp op t (.int k x) (.int k' y)).run P w= .ok (Hv (Iy op k x y).2) w∧(Iy op k x y).2.flat =true:=by
 refine⟨?_,by cases op<;>rfl⟩
 cases op<;>simp only [JD,Iy]at h1 h2<;>(try subst h1)<;>simp only [Iy,Hv]<;>
  first
   | (simp [eqGuard,binOp,Op.intArith,Op.intDiv,Op.intBits,Op.intCmp,h2,em,eo,jf,Vx];done)
   | (have h3: ¬y<0:=by omega
      simp [eqGuard,binOp,Op.shift,h3])
theorem Zq {P:Program} {op:BinOp} {t:TypeId} {x y:List UInt8} {ox oy:Operand} (h2:(JC op x y).1) (w:World):
 (do eqGuard op t ox oy (.string ⟨x.toArray⟩) (.string ⟨y.toArray⟩);binOp op t (.string ⟨x.toArray⟩) (.string ⟨y.toArray⟩)).run P w= .ok (Hv (JC op x y).2) w∧(JC op x y).2.flat =true:=by
 cases op<;>simp only [JC]at h2<;>refine⟨?_,rfl⟩<;>simp only [JC,Hv]
 case add=>
  have h3: ¬((x.length+y.length:Nat):Int)>IntKind.i64.max:=by
   have:IntKind.i64.max=9223372036854775807:=by decide
   unfold maxLen at h2;omega
  simp only [eqGuard,binOp,Op.stringOp,jg]
  rw [if_neg h3]
  have e:(⟨x.toArray⟩++⟨y.toArray⟩:ByteArray)=⟨(x++y).toArray⟩:=by
   apply ByteArray.ext
   simp
  simp [e]
 case neq=>simp [eqGuard,binOp,Op.stringOp,ByteArray.toList_eq,bne]
 all_goals simp [eqGuard,binOp,Op.stringOp,ByteArray.toList_eq]
theorem IA {P:Program} {op:BinOp} {t:TypeId} {u v:Value} {b:Bool} {s:Prop} {w:World} {G:Bp} {ox oy:Operand} (hs:(Of op b s).1) (hshape:(∀ k a,u ≠ .int k a)∧(∀ k a,u ≠ .float k a)∧(∀ k a c,u ≠ .complex k a c)∧(∀ a,u ≠ .string a))
 (hg:s→ ∀ w',(eqGuard op t ox oy u v).run P w'= .ok () w') (he:s→ ∀ w',(Op.equal t u v).run P w'= .ok b w'):
 ∃ r,Am w G (Of op b s).2 r∧ ∀ w',(do eqGuard op t ox oy u v;binOp op t u v).run P w'= .ok r w':=by
 unfold Of at *
 obtain⟨h1,h2,h3,h4⟩:=hshape
 split at hs
 ·refine⟨.bool b,(Bl rfl).2 rfl,fun w'=>?_⟩
  simp only [Sem.run_bind,hg hs w',Result.andThen_ok]
  cases u<;>simp_all [binOp]
 ·refine⟨.bool !b,(Bl rfl).2 rfl,fun w'=>?_⟩
  simp only [Sem.run_bind,hg hs w',Result.andThen_ok]
  cases u<;>simp_all [binOp]
 ·exact hs.elim
theorem nI {P:Program} (d:Nat) {t u:TypeId} {x:Value} {ms:Array (String×TypeId)} (h:P.underlying t=some (.interface ms)) (w:World):(Op.equalIn (d+1) t (.iface u x) .nilIface).run P w= .ok false w:=by
 simp [Op.equalIn,run_underlying h]
theorem sH {P:Program} (d:Nat) {t:TypeId} {ms:Array (String×TypeId)} (h:P.underlying t=some (.interface ms)) (w:World):(Op.equalIn (d+1) t .nilIface .nilIface).run P w= .ok true w:=by
 simp [Op.equalIn,run_underlying h]
theorem sJ {P:Program} (d:Nat) {t e:TypeId} {a:Addr} (h:P.underlying t=some (.pointer e)) (w:World):(Op.equalIn (d+1) t (.pointer (some a)) (.pointer none)).run P w= .ok false w:=by
 simp [Op.equalIn,run_underlying h]
theorem sK {P:Program} (d:Nat) {t e:TypeId} (h:P.underlying t=some (.pointer e)) (w:World):(Op.equalIn (d+1) t (.pointer none) (.pointer none)).run P w= .ok true w:=by
 simp [Op.equalIn,run_underlying h]
theorem VS {P:Program} {t u:TypeId} {x:Value} {ms:Array (String×TypeId)} (h:P.underlying t=some (.interface ms)) (w:World):(Op.equal t (.iface u x) .nilIface).run P w= .ok false w:=nI 9999 h w
theorem bw {P:Program} {t:TypeId} {ms:Array (String×TypeId)} (h:P.underlying t=some (.interface ms)) (w:World):(Op.equal t .nilIface .nilIface).run P w= .ok true w:=sH 9999 h w
theorem bA {P:Program} {t e:TypeId} {a:Addr} (h:P.underlying t=some (.pointer e)) (w:World):(Op.equal t (.pointer (some a)) (.pointer none)).run P w= .ok false w:=sJ 9999 h w
theorem bB {P:Program} {t e:TypeId} (h:P.underlying t=some (.pointer e)) (w:World):(Op.equal t (.pointer none) (.pointer none)).run P w= .ok true w:=sK 9999 h w
theorem jh {P:Program} {op:BinOp} {t:TypeId} {x y:V} {u v:Value} {w:World} {G:Bp} {ox oy:Operand} (hx:Am w G x u) (hy:Am w G y v) (hs:(UV P op t (BQ ox||BQ oy) x y).1):
 ∃ r,Am w G (UV P op t (BQ ox||BQ oy) x y).2 r∧ ∀ w',(do eqGuard op t ox oy u v;binOp op t u v).run P w'= .ok r w':=by
 unfold UV at *
 split at hs
 ·simp only [Am,As]at hx hy
  subst hx hy
  exact⟨_,by simp only [Am];exact(Bl (Zp (P:=P) (t:=t) (ox:=ox) (oy:=oy) hs.1 hs.2 w).2).2 rfl,fun w'=>(Zp hs.1 hs.2 w').1⟩
 ·simp only [Am,As]at hx hy
  subst hx hy
  exact⟨_,by simp only [Am];exact(Bl (Zq (P:=P) (t:=t) (ox:=ox) (oy:=oy) hs w).2).2 rfl,fun w'=>(Zq hs w').1⟩
 ·simp only [Am,As]at hx hy
  subst hx hy
  split at hs
  ·exact⟨_,(Bl rfl).2 rfl,fun w'=>by simp [eqGuard,run_eql_bool w' t _ _ (TM hs),Hv]⟩
  ·exact⟨_,(Bl rfl).2 rfl,fun w'=>by simp [eqGuard,run_neq_bool w' t _ _ (TM hs),Hv,bne]⟩
  ·exact hs.elim
 ·simp only [Am,As]at hx hy
  subst hx hy
  refine IA hs (by simp) (fun q w'=>?_) (fun q w'=>?_)
  ·have hk:=q.1
   cases ox<;>cases oy<;>simp_all [BQ,eqGuard]<;>(try (split<;>rfl))
  ·obtain⟨ms,hm⟩:=PN q.2
   exact bw hm w'
 ·simp only [Am,As]at hx hy
  obtain⟨t',x',rfl⟩:=hx
  subst hy
  refine IA hs (by simp) (fun q w'=>?_) (fun q w'=>?_)
  ·simp [eqGuard]<;>(try (split<;>rfl))
  ·obtain⟨ms,hm⟩:=PN q
   exact VS hm w'
 ·simp only [Am,As]at hx hy
  obtain⟨b,_,rfl⟩:=hx
  subst hy
  refine IA hs (by simp) (fun q w'=>?_) (fun q w'=>?_)
  ·simp [eqGuard]<;>(try (split<;>rfl))
  ·obtain⟨ms,hm⟩:=VR q
   exact bA hm w'
 ·simp only [Am,As]at hx hy
  subst hx hy
  refine IA hs (by simp) (fun q w'=>?_) (fun q w'=>?_)
  ·simp [eqGuard]<;>(try (split<;>rfl))
  ·obtain⟨ms,hm⟩:=VR q
   exact bB hm w'
 ·exact hs.elim
end Go.PL
namespace Go.PL
open Go Go.RowKit
abbrev no:Prop×V:=(False, .undef)
def sF (op:UnOp):V→Prop×V
 | .c (.int k n)=>match op with
   | .neg =>(True, .c (.int k (k.wrap (0 - n))))
   | .xor =>(True, .c (.int k (jf k (if k.signed then -1 else k.max) n)))
   | _=>no
 | .c (.bool b)=>match op with
   | .not =>(True, .c (.bool !b))
   | _=>no
 | _=>no
theorem nJ {P:Program} {op:UnOp} {x:V} {u:Value} {w:World} {G:Bp} (hx:Am w G x u) (hs:(sF op x).1):
 ∃ r,Am w G (sF op x).2 r∧ ∀ w',(Op.unary op u).run P w'= .ok r w':=by
 unfold sF at *
 split at hs
 ·simp only [Am,As]at hx;subst hx
  split at hs
  ·exact⟨_,(Bl rfl).2 rfl,fun w'=>by simp [Op.unary,Op.intArith,Hv]⟩
  ·exact⟨_,(Bl rfl).2 rfl,fun w'=>by simp [Op.unary,Op.intBits,Hv,jf]⟩
  ·exact hs.elim
 ·simp only [Am,As]at hx;subst hx
  split at hs
  ·exact⟨_,(Bl rfl).2 rfl,fun w'=>by simp [Op.unary,Hv]⟩
  ·exact hs.elim
 ·exact hs.elim
def ep (P:Program) (t:TypeId):Option IntKind:=
 match P.underlying t with
 | some (.int k)=>some k
 | _=>none
theorem ji {P:Program} {t:TypeId} {k:IntKind} (h:ep P t=some k):P.underlying t=some (.int k):=by
 unfold ep at h;split at h<;>simp_all
def sL (P:Program) (t:TypeId):Bool:=(P.underlying t).isSome
def bytesOf:List C→Option (List UInt8)
 | []=>some []
 | .int .u8 n::cs=>match bytesOf cs with
   | some bs=>if 0≤n∧n<256 then some (UInt8.ofNat n.toNat::bs)else none
   | none=>none
 | _=>none
def Kp:List C→List UInt8
 | []=>[]
 | .int _ n::cs=>UInt8.ofNat n.toNat::Kp cs
 | _::cs=>Kp cs
def IB:List C→Prop
 | []=>True
 | .int .u8 n::cs=>(0≤n∧n<256)∧IB cs
 | _=>False
theorem VU: ∀ {cs:List C},IB cs→bytesOf cs=some (Kp cs)
 | [],_=>rfl
 | c::cs,h=>by
   unfold IB at h
   split at h
   ·cases ‹_=([]:List C)›
   ·rename_i n cs' he
    injection he with h1 h2;subst h1 h2
    simp [bytesOf,VU h.2,h.1,Kp]
   ·exact h.elim
def Ga (P:Program) (t:TypeId):Bool:=
 match P.underlying t with
 | some (.slice e)=>match P.underlying e with
   | some (.int .u8)=>true
   | _=>false
 | _=>false
def IC (P:Program) (src dst:TypeId) (st:St):V→Prop×V
 | .c (.int _ n)=>match ep P dst with
   | some k=>(sL P src=true, .c (.int k (k.wrap n)))
   | none=>no
 | .c (.str s)=>(EJ P src=true∧EJ P dst=true, .c (.str s))
 | .c (.osl id)=>match st.look id with
   | some e=>match e.row with
     | some (_,n,_)=>((Ga P src=true∧EJ P dst=true)∧n=1∧IB e.cs, .c (.str (Kp e.cs)))
     | _=>no
   | none=>no
 | _=>no
theorem RQ {P:Program} {t:TypeId} (h:Ga P t=true): ∃ e,P.underlying t=some (.slice e)∧P.underlying e=some (.int .u8):=by
 unfold Ga at h
 split at h
 ·rename_i e he;split at h
  ·rename_i h2;exact⟨e,he,h2⟩
  ·cases h
 ·cases h
theorem PO {w:World} {G:Bp}: ∀ {cs:List C} {bs:List UInt8} {vs:List Value},bytesOf cs=some bs→AG w G cs vs→vs=bs.map (fun b=>Value.int .u8 b.toNat)
 | [],bs,vs,h,hr=>by
   simp [bytesOf]at h;subst h
   cases vs<;>simp_all [AG]
 | c::cs,bs,vs,h,hr=>by
   cases vs with
   | nil=>simp [AG]at hr
   | cons v vs=>
     simp only [AG]at hr
     unfold bytesOf at h
     split at h
     ·cases ‹_=([]:List C)›
     ·rename_i n cs' he
      injection he with h1 h2;subst h1 h2
      split at h
      ·rename_i bs' hb
       split at h
       ·rename_i hn
        injection h with h;subst h
        have:=PO hb hr.2
        simp only [As]at hr
        rw [hr.1,this]
        simp only [List.map_cons,List.cons.injEq,and_true,Value.int.injEq,true_and]
        have:(UInt8.ofNat n.toNat).toNat =n.toNat:=by simp;omega
        rw [this];omega
       ·cases h
      ·cases h
     ·cases h
theorem eu {P:Program} {F:Fr} {st:St} {a:Act} {w:World} {G:Bp} (h:R F st a w G) {src dst:TypeId} {x:V} {u:Value} (hx:Am w G x u) (hs:(IC P src dst st x).1):
 ∃ r,Am w G (IC P src dst st x).2 r∧ ∀ w',Ft w w'→(convert src dst u).run P w'= .ok r w':=by
 unfold IC at *
 split at hs
 ·simp only [Am,As]at hx;subst hx
  split at hs
  ·rename_i k hk
   unfold sL at hs
   cases hu:P.underlying src with
   | none=>simp [hu]at hs
   | some d=>exact⟨_,(Bl rfl).2 rfl,fun w' _=>by simp [convert,run_underlying hu,run_underlying (ji hk),Conv.intToInt,Hv]⟩
  ·exact hs.elim
 ·simp only [Am,As]at hx;subst hx
  exact⟨_,(Bl rfl).2 rfl,fun w' _=>by simp [convert,run_underlying (Fy hs.1),run_underlying (Fy hs.2),Hv]⟩
 ·rename_i id
  split at hs
  ·rename_i e he
   split at hs
   ·rename_i E n len hrow
    obtain⟨hs,rfl,hbs⟩:=hs
    have hb:=VU hbs
    generalize Kp e.cs=bs at *
    obtain⟨t,hs1,hs2⟩:=RQ hs.1
    have hd:=Fy hs.2
    obtain⟨hm,hid⟩:=Ct he
    have hE:=h.store e hm
    unfold Ck at hE
    rw [hrow]at hE
    obtain⟨hl,v,hown,hcase⟩:=hE
    simp only [Am,As]at hx
    rw [hid]at hown
    rw [hown]at hx
    obtain⟨hx,_⟩:=hx
    injection hx with hx;subst hx
    refine⟨.string ⟨bs.toArray⟩,(Bl rfl).2 rfl,fun w' hw'=>?_⟩
    rcases hcase with ⟨p,rfl,h0,_⟩ | ⟨b,cap,cur,rfl,_,_,_,_,_,hr⟩
    ·have:e.cs=[]:=by cases hc:e.cs with
      | nil=>rfl
      | cons c cs=>rw [hc,h0]at hl;simp at hl
     rw [this]at hb;simp [bytesOf]at hb;subst hb
     cases p with
     | none=>exact run_convert_bytes_nil w' src t hs1 hs2 0 0 dst hd
     | some p=>exact run_convert_bytes_back w' src dst t p 0 [] hs1 hs2 hd (fun j hj=>by simp at hj)
    ·obtain⟨vs,h1,h2⟩:=hr.list
     have hv:=PO hb h1
     have hlen:bs.length=len:=by
      have:=h1.length;rw [hv]at this;simp at this;omega
     rw [←hlen]
     refine run_convert_bytes_back w' src dst t ⟨b,0,none⟩ cap bs hs1 hs2 hd ?_
     intro j hj
     rw [Addr.add_mid]
     simpa using hw'.range h2 j (.int .u8 bs[j].toNat) (by rw [hv];simp [hj])
   ·exact hs.elim
  ·exact hs.elim
 ·exact hs.elim
theorem ew {P:Program} {t:TypeId} {f o n:Nat} {ag:Bool} (h:pJ P t f=some (o,ag,n)):
 ∃ fs x,P.underlying t=some (.struct fs)∧fs[f]? =some x∧x.offset=o∧Oe P x.type=some (ag,n):=by
 unfold pJ at h
 split at h
 ·rename_i fs h1
  split at h
  ·rename_i x h2
   split at h
   ·rename_i ag' n' h3
    simp only [Option.some.injEq,Prod.mk.injEq]at h
    obtain⟨rfl,rfl,rfl⟩:=h
    exact⟨fs,x,h1,h2,rfl,h3⟩
   ·cases h
  ·cases h
 ·cases h
def BW (P:Program) (s:TypeId) (f:Nat):V→Prop×V
 | .c (.ptr id off)=>match pJ P s f with
   | some (o,_,n)=>(0<n, .c (.ptr id (off+o)))
   | none=>no
 | .c (.iptr cs off)=>match pJ P s f with
   | some (o,_,n)=>(0<n, .c (.iptr cs (off+o)))
   | none=>no
 | _=>no
theorem run_fieldAt' {P:Program} {s:TypeId} {f o n:Nat} {ag:Bool} (h:pJ P s f=some (o,ag,n)) (hn:0<n) (b off:Nat) (w:World):
 (Instr.fieldAt s (.pointer (some ⟨b,off,none⟩)) f).run P w= .ok (.pointer (some ⟨b,off+o,none⟩)) w:=by
 obtain⟨fs,x,h1,h2,h3,h4⟩:=ew h
 obtain⟨d,i,hu,_,hi,hsz⟩:=En h4
 simp only [Instr.fieldAt,Sem.run_bind,run_underlying h1,Result.andThen_ok,h2,Instr.sureAddr,Sem.run_pure,fieldPlace,sizeOf,typeInfo]
 have: ¬i.size=0:=by omega
 simp [program,Sem.run,hi,this,h3,Addr.add_mid]
theorem RR {P:Program} {s:TypeId} {f:Nat} {x:V} {u:Value} {w:World} {G:Bp} (hx:Am w G x u) (hs:(BW P s f x).1):
 ∃ r,Am w G (BW P s f x).2 r∧ ∀ w',(Instr.fieldAt s u f).run P w'= .ok r w':=by
 unfold BW at *
 split at hs
 ·split at hs
  ·rename_i o ag n hf
   simp only [Am,As]at hx ⊢
   obtain⟨b,hb,rfl⟩:=hx
   exact⟨_,⟨b,hb,rfl⟩,fun w'=>run_fieldAt' hf hs b _ w'⟩
  ·exact hs.elim
 ·split at hs
  ·rename_i o ag n hf
   simp only [Am,As]at hx ⊢
   obtain⟨hp,b,o',rfl,h1,h2,h3⟩:=hx
   exact⟨_,⟨hp,b,o',rfl,h1,h2,h3⟩,fun w'=>by rw [run_fieldAt' hf hs b _ w',Nat.add_assoc]⟩
  ·exact hs.elim
 ·exact hs.elim
theorem run_part' {P:Program} {t:TypeId} {ag:Bool} {n:Nat} (ht:Oe P t=some (ag,n)) {w:World} {G:Bp} {cs:List C} {arr:Array Value} (h:AG w G cs arr.toList) {off:Nat} (hb:off+n≤cs.length) (h0:ag=true∨0<n):
 ∃ r,Am w G (toV ag off n cs) r∧ ∀ w',(part t arr off).run P w'= .ok r w':=by
 obtain⟨d,i,hu,hd,hi,hsz⟩:=En ht
 have hagg: ∀ w',(isAgg t).run P w'= .ok ag w':=by
  intro w'
  unfold isAgg
  rw [Sem.run_bind,run_underlying hu w']
  cases d<;>simp_all
 have hlen:=h.length
 unfold toV
 cases hag:ag with
 | true=>
   refine⟨.agg (arr.extract off (off+n)),⟨_,rfl,?_⟩,fun w'=>?_⟩
   ·have:=(h.drop off).take n
    simpa [Array.toList_extract,List.extract_eq_take_drop] using this
   ·simp [part,Sem.run_bind,hagg,hag,sizeOf,typeInfo,program,Sem.run,hi,hsz]
 | false=>
   have hn0:0<n:=by rcases h0 with h' | h'; · rw [hag]at h';cases h'
                    ·exact h'
   have hlt:off<cs.length:=by omega
   obtain⟨v,hv,hr⟩:=h.get off cs[off] (by simp [hlt])
   refine⟨v,by simpa [Am,List.getD_eq_getElem?_getD,hlt] using hr,fun w'=>?_⟩
   have hv':arr[off]? =some v:=by simpa using hv
   simp [part,Sem.run_bind,hagg,hag,hv']
def Hw (P:Program) (t:TypeId) (f:Nat):V→Prop×V
 | .agg cs=>match pJ P t f with
   | some (o,ag,n)=>(o+n≤cs.length∧(ag=true∨0<n),toV ag o n cs)
   | none=>no
 | _=>no
theorem bD {P:Program} {t:TypeId} {f:Nat} {x:V} {u:Value} {w:World} {G:Bp} (hx:Am w G x u) (hs:(Hw P t f x).1):
 ∃ r,Am w G (Hw P t f x).2 r∧ ∀ w',(Instr.field t u f).run P w'= .ok r w':=by
 unfold Hw at *
 split at hs
 ·split at hs
  ·rename_i o ag n hf
   simp only [Am]at hx
   obtain⟨arr,rfl,hr⟩:=hx
   obtain⟨fs,y,h1,h2,h3,h4⟩:=ew hf
   obtain⟨r,q1,q2⟩:=run_part' h4 hr hs.1 hs.2
   exact⟨r,q1,fun w'=>by simp [Instr.field,Sem.run_bind,run_underlying h1,h2,asAgg,h3,q2]⟩
  ·exact hs.elim
 ·exact hs.elim
def B6 (P:Program) (t:TypeId) (st:St) (x y:V):Prop×V:=
 match y with
 | .c (.int _ i)=>match x with
   | .c (.sl len cs)=>match Em P t with
     | some (_,n)=>(0≤i∧i<len, .c (.iptr cs (i.toNat*n)))
     | none=>no
   | .c (.osl id)=>match Em P t,st.lookR id with
     | some (_,n),some e=>match e.row with
       | some (_,_,len)=>(0≤i∧i<len, .c (.ptr id (i.toNat*n)))
       | none=>no
     | _,_=>no
   | .c (.bsl id off len)=>match Em P t with
     | some (_,n)=>(0≤i∧i<len, .c (.ptr id (off+i.toNat*n)))
     | none=>no
   | .c (.ptr id off)=>match F9 P t with
     | some (k,_,n)=>(0≤i∧i<k, .c (.ptr id (off+i.toNat*n)))
     | none=>no
   | .c (.iptr cs off)=>match F9 P t with
     | some (k,_,n)=>(0≤i∧i<k, .c (.iptr cs (off+i.toNat*n)))
     | none=>no
   | _=>no
 | _=>no
theorem ES {P:Program} {t e:TypeId} {n:Nat} (h:Em P t=some (e,n)) (b o len cap:Nat) (k:IntKind) (i:Int) (h0:0≤i) (h1:i<len) (w:World):
 (Instr.indexAt t (.slice (some ⟨b,o,none⟩) len cap) (.int k i)).run P w= .ok (.pointer (some ⟨b,o+i.toNat*n,none⟩)) w:=by
 obtain⟨hu,inf,hi,hsz⟩:=OR h
 simp [Instr.indexAt,asIntOf,Sem.run_bind,run_underlying hu,h0,h1,sizeOf,typeInfo,program,Sem.run,hi,hsz,Addr.add_mid]
theorem LU {P:Program} {t e:TypeId} {m n:Nat} (h:F9 P t=some (m,e,n)) (b o:Nat) (k:IntKind) (i:Int) (h0:0≤i) (h1:i<m) (w:World):
 (Instr.indexAt t (.pointer (some ⟨b,o,none⟩)) (.int k i)).run P w= .ok (.pointer (some ⟨b,o+i.toNat*n,none⟩)) w:=by
 obtain⟨hu,inf,hi,hsz⟩:=Ko h
 simp [Instr.indexAt,asIntOf,Sem.run_bind,run_underlying hu,h0,h1,sizeOf,typeInfo,program,Sem.run,hi,hsz,Addr.add_mid,Instr.sureAddr]
theorem RS {P:Program} {F:Fr} {st:St} {a:Act} {w:World} {G:Bp} (h:R F st a w G) {t:TypeId} {x y:V} {u v:Value} (hx:Am w G x u) (hy:Am w G y v) (hs:(B6 P t st x y).1):
 ∃ r,Am w G (B6 P t st x y).2 r∧ ∀ w',(Instr.indexAt t u v).run P w'= .ok r w':=by
 unfold B6 at *
 split at hs
 ·rename_i k i
  simp only [Am,As]at hy;subst hy
  split at hs
  ·split at hs
   ·rename_i len cs e n hse
    simp only [Am,As]at hx ⊢
    obtain⟨hp,ad,cap,rfl,_,_,_,h0 | ⟨b,o,rfl,h1,h2,h3⟩⟩:=hx
    ·omega
    ·exact⟨_,⟨hp,b,o,rfl,h1,h2,h3⟩,fun w'=>ES hse b o _ _ k i hs.1 hs.2 w'⟩
   ·exact hs.elim
  ·rename_i id
   split at hs
   ·rename_i e n en hse hlk
    split at hs
    ·rename_i E n' len hrow
     obtain⟨hm,hid⟩:=RO hlk
     have hE:=h.store en hm
     unfold Ck at hE
     rw [hrow]at hE
     obtain⟨hl,v,hown,hcase⟩:=hE
     simp only [Am,As]at hx ⊢
     rw [hid]at hown
     rw [hown]at hx
     obtain⟨hx,_⟩:=hx
     injection hx with hx;subst hx
     rcases hcase with ⟨_,h0,_⟩ | ⟨b,cap,cur,rfl,hb,_⟩
     ·omega
     ·refine⟨_,⟨b,by rw [←hid];exact hb,rfl⟩,fun w'=>?_⟩
      simpa using ES hse b 0 len cap k i hs.1 hs.2 w'
    ·exact hs.elim
   ·exact hs.elim
  ·rename_i id off len
   split at hs
   ·rename_i e n hse
    simp only [Am,As]at hx ⊢
    obtain⟨b,cap,hb,rfl,hc⟩:=hx
    exact⟨_,⟨b,hb,rfl⟩,fun w'=>ES hse b off len cap k i hs.1 hs.2 w'⟩
   ·exact hs.elim
  ·split at hs
   ·rename_i m e n hae
    simp only [Am,As]at hx ⊢
    obtain⟨b,hb,rfl⟩:=hx
    exact⟨_,⟨b,hb,rfl⟩,fun w'=>LU hae b _ k i hs.1 hs.2 w'⟩
   ·exact hs.elim
  ·split at hs
   ·rename_i m e n hae
    simp only [Am,As]at hx ⊢
    obtain⟨hp,b,o,rfl,h1,h2,h3⟩:=hx
    exact⟨_,⟨hp,b,o,rfl,h1,h2,h3⟩,fun w'=>by rw [LU hae b _ k i hs.1 hs.2 w',Nat.add_assoc]⟩
   ·exact hs.elim
  ·exact hs.elim
 ·exact hs.elim
def GG (P:Program) (t:TypeId) (x y:V):Prop×V:=
 match y with
 | .c (.int _ i)=>match x with
   | .c (.str s)=>(EJ P t=true∧0≤i∧i<s.length, .c (.int .u8 (s.getD i.toNat 0).toNat))
   | .agg cs=>match F9 P t with
     | some (k,e,n)=>match Oe P e with
       | some (ag,_)=>(0≤i∧i<k∧i.toNat*n+n≤cs.length∧0<n,toV ag (i.toNat*n) n cs)
       | none=>no
     | none=>no
   | _=>no
 | _=>no
theorem bF {P:Program} {t:TypeId} {x y:V} {u v:Value} {w:World} {G:Bp} (hx:Am w G x u) (hy:Am w G y v) (hs:(GG P t x y).1):
 ∃ r,Am w G (GG P t x y).2 r∧ ∀ w',(Instr.index t u v).run P w'= .ok r w':=by
 unfold GG at *
 split at hs
 ·rename_i k i
  simp only [Am,As]at hy;subst hy
  split at hs
  ·simp only [Am,As]at hx;subst hx
   obtain⟨h1,h2,h3⟩:=hs
   rename_i s
   refine⟨_,(Bl rfl).2 rfl,fun w'=>?_⟩
   have hlt:i.toNat<s.length:=by omega
   have hg:(⟨s.toArray⟩:ByteArray)[i.toNat]? =some s[i.toNat]:=by
    rw [getElem?_pos _ _ (by simpa [ByteArray.size] using hlt)]
    rfl
   simp [Instr.index,asIntOf,Sem.run_bind,run_underlying (Fy h1),h2,hg,Hv,List.getD_eq_getElem?_getD,hlt]
  ·split at hs
   ·rename_i m e n hae
    split at hs
    ·rename_i ag n' hts
     obtain⟨hu,inf,hi,hsz⟩:=Ko hae
     obtain⟨d,inf',hu',hd,hi',hsz'⟩:=En hts
     rw [hi]at hi';injection hi' with hi';subst hi'
     have hnn:n'=n:=by omega
     subst hnn
     simp only [Am]at hx
     obtain⟨arr,rfl,hr⟩:=hx
     obtain⟨r,q1,q2⟩:=run_part' hts hr hs.2.2.1 (.inr hs.2.2.2)
     exact⟨r,q1,fun w'=>by simp [Instr.index,asIntOf,Sem.run_bind,run_underlying hu,hs.1,hs.2.1,sizeOf,typeInfo,program,Sem.run,hi,hsz,q2]⟩
    ·exact hs.elim
   ·exact hs.elim
  ·exact hs.elim
 ·exact hs.elim
end Go.PL
namespace Go.PL
open Go Go.RowKit
def Ys (len:Nat) (lo hi:Option V):Option (Int×Int):=
 match lo,hi with
 | none,none=>some (0,len)
 | some (.c (.int _ l)),none=>some (l,len)
 | none,some (.c (.int _ h))=>some (0,h)
 | some (.c (.int _ l)),some (.c (.int _ h))=>some (l,h)
 | _,_=>none
def FA (P:Program) (t:TypeId) (x:V) (lo hi:Option V):Prop×V:=
 match x with
 | .c (.str s)=>match Ys s.length lo hi with
   | some (l,h)=>(EJ P t=true∧0≤l∧l≤h∧h≤s.length, .c (.str ((s.drop l.toNat).take (h.toNat - l.toNat))))
   | none=>no
 | .c (.sl len cs)=>match Em P t,Ys len lo hi with
   | some (_,n),some (l,h)=>(0≤l∧l≤h∧h≤len∧cs.length=len*n, .c (.sl (h.toNat - l.toNat) ((cs.drop (l.toNat*n)).take ((h.toNat - l.toNat)*n))))
   | _,_=>no
 | .c (.ptr id off)=>match F9 P t,Ys (match F9 P t with
  | some (k,_,_)=>k
  | none=>0) lo hi with
  | some (k,_,n),some (l,h)=>(0≤l∧l<k∧l≤h∧h≤k, .c (.bsl id (off+l.toNat*n) (h.toNat - l.toNat)))
  | _,_=>no
 | _=>no
def Hx (w:World) (G:Bp):Option V→Option Value→Prop
 | none,none=>True
 | some x,some v=>Am w G x v
 | _,_=>False
theorem run_sliceBound' {P:Program} (w:World) (k:IntKind) (i:Int) (y:Nat) (code:BoundsCode) (h0:0≤i) (h1:i≤y):
 (Instr.sliceBound (.int k i) y code).run P w= .ok i.toNat w:=by
 simp [Instr.sliceBound,asIntOf,h0,h1]
theorem VV {P:Program} {w:World} {G:Bp} {len cap:Nat} {lo hi:Option V} {lv hv:Option Value} {l h:Int} (sl:Bool) (hb:Ys len lo hi=some (l,h)) (h1:Hx w G lo lv) (h2:Hx w G hi hv)
 (q1:0≤l) (q2:l≤h) (q3:h≤len) (q4:len≤cap): ∀ w',(Instr.sliceBounds sl len cap lv hv none).run P w'= .ok (l.toNat,h.toNat,cap) w':=by
 intro w'
 unfold Ys at hb
 split at hb
 ·simp only [Option.some.injEq,Prod.mk.injEq]at hb;obtain⟨rfl,rfl⟩:=hb
  cases lv<;>cases hv<;>simp only [Hx]at h1 h2
  simp [Instr.sliceBounds]
 ·rename_i k1 l1
  simp only [Option.some.injEq,Prod.mk.injEq]at hb;obtain⟨rfl,rfl⟩:=hb
  cases lv<;>cases hv<;>simp only [Hx,Am,As]at h1 h2
  subst h1
  have e1:=fun code=>run_sliceBound' (P:=P) w' k1 l1 len code q1 (by omega)
  simp [Instr.sliceBounds,e1]
 ·rename_i k2 l2
  simp only [Option.some.injEq,Prod.mk.injEq]at hb;obtain⟨rfl,rfl⟩:=hb
  cases lv<;>cases hv<;>simp only [Hx,Am,As]at h1 h2
  subst h2
  have e2:=fun code=>run_sliceBound' (P:=P) w' k2 l2 cap code (by omega) (by omega)
  simp [Instr.sliceBounds,e2]
 ·rename_i k1 l1 k2 l2
  simp only [Option.some.injEq,Prod.mk.injEq]at hb;obtain⟨rfl,rfl⟩:=hb
  cases lv<;>cases hv<;>simp only [Hx,Am,As]at h1 h2
  subst h1 h2
  have e1:=fun code=>run_sliceBound' (P:=P) w' k1 l1 l2.toNat code q1 (by omega)
  have e2:=fun code=>run_sliceBound' (P:=P) w' k2 l2 cap code (by omega) (by omega)
  simp [Instr.sliceBounds,e1,e2]
 ·cases hb
theorem bG {P:Program} {t:TypeId} {x:V} {lo hi:Option V} {u:Value} {lv hv:Option Value} {w:World} {G:Bp} (hx:Am w G x u) (h1:Hx w G lo lv) (h2:Hx w G hi hv) (hs:(FA P t x lo hi).1):
 ∃ r,Am w G (FA P t x lo hi).2 r∧ ∀ w',(Instr.sliceAt t u lv hv none).run P w'= .ok r w':=by
 unfold FA at *
 split at hs
 ·rename_i s
  split at hs
  ·rename_i l h hb
   simp only [Am,As]at hx;subst hx
   obtain⟨q0,q1,q2,q3⟩:=hs
   refine⟨_,(Bl rfl).2 rfl,fun w'=>?_⟩
   have e:(⟨s.toArray⟩:ByteArray).extract l.toNat h.toNat=⟨((s.drop l.toNat).take (h.toNat - l.toNat)).toArray⟩:=by
    apply ByteArray.ext
    apply Array.ext'
    simp [ByteArray.data_extract,List.extract_eq_take_drop]
   have:=VV (P:=P) (w:=w) (G:=G) false (len:=s.length) (cap:=s.length) hb h1 h2 q1 q2 q3 (Nat.le_refl _) w'
   simp [Instr.sliceAt,Instr.slice,Sem.run_bind,run_underlying (Fy q0),jg,this,Hv,e]
  ·exact hs.elim
 ·rename_i len cs
  split at hs
  ·rename_i e n l h hse hb
   obtain⟨q1,q2,q3,q4⟩:=hs
   obtain⟨hu,inf,hi',hsz⟩:=OR hse
   simp only [Am,As]at hx ⊢
   obtain⟨hp,ad,cap,rfl,c1,c2,c3,c4⟩:=hx
   have hr:=fun w'=>VV (P:=P) (w:=w) (G:=G) true (len:=len) (cap:=cap) hb h1 h2 q1 q2 q3 c1 w'
   refine⟨.slice (if cap=l.toNat then ad else ad.map (·.add (l.toNat*n))) (h.toNat - l.toNat) (cap - l.toNat),⟨Kk _ (Kl _ hp),_,_,rfl,by omega,by omega,?_,?_⟩,fun w'=>?_⟩
   ·intro h0;rw [h0];simp
   ·by_cases hz:h.toNat - l.toNat=0
    ·exact .inl hz
    ·right
     rcases c4 with c4 | ⟨b,o,rfl,k1,k2,k3⟩
     ·omega
     ·have hne: ¬cap=l.toNat:=by omega
      refine⟨b,o+l.toNat*n,?_,k1,k2,?_⟩
      ·rw [if_neg hne];simp [Addr.add_mid]
      ·exact(k3.drop (l.toNat*n)).take _
   ·simp [Instr.sliceAt,Instr.slice,Sem.run_bind,run_underlying hu,hr,sizeOf,typeInfo,program,Sem.run,hi',hsz]
  ·exact hs.elim
 ·rename_i id off
  split at hs
  ·rename_i k e n l h hae hb
   obtain⟨q1,q2,q3,q4⟩:=hs
   obtain⟨hu,inf,hi',hsz⟩:=Ko hae
   simp only [hae]at hb
   simp only [Am,As]at hx ⊢
   obtain⟨b,hb1,rfl⟩:=hx
   have hr:=fun sl w'=>VV (P:=P) (w:=w) (G:=G) sl (len:=k) (cap:=k) hb h1 h2 q1 q3 q4 (Nat.le_refl _) w'
   have hne: ¬k=l.toNat:=by omega
   refine⟨.slice (some (if k=l.toNat then⟨b,off,none⟩else(⟨b,off,none⟩:Addr).add (l.toNat*n))) (h.toNat - l.toNat) (k - l.toNat),⟨b,k - l.toNat,hb1,?_,by omega⟩,fun w'=>?_⟩
   ·rw [if_neg hne,Addr.add_mid]
   ·simp [Instr.sliceAt,Instr.sureAddr,Sem.run_bind,run_underlying hu,hr,sizeOf,typeInfo,program,Sem.run,hi',hsz]
  ·exact hs.elim
 ·exact hs.elim
def FW (P:Program) (t:TypeId):Bool:=
 match P.underlying t with
 | some (.slice _)=>true
 | _=>false
def OS (P:Program) (t:TypeId) (st:St) (x:V):Prop×V:=
 match x with
 | .c (.str s)=>(EJ P t=true, .c (.int .i64 s.length))
 | .c (.sl len _)=>(FW P t=true, .c (.int .i64 len))
 | .c (.osl id)=>match st.lookR id with
   | some e=>match e.row with
     | some (_,_,len)=>(FW P t=true, .c (.int .i64 len))
     | none=>no
   | none=>no
 | .c (.bsl _ _ len)=>(FW P t=true, .c (.int .i64 len))
 | _=>match F9 P t with
   | some (k,_,_)=>(True, .c (.int .i64 k))
   | none=>no
theorem GW {P:Program} {t:TypeId} (h:FW P t=true): ∃ e,P.underlying t=some (.slice e):=by
 unfold FW at h
 split at h
 ·rename_i e he;exact⟨e,he⟩
 ·cases h
theorem nK {F:Fr} {st:St} {a:Act} {w:World} {G:Bp} (h:R F st a w G) {id:AC} {e:AY} (he:st.lookR id=some e) {E n len:Nat} (hrow:e.row=some (E,n,len)) {u:Value} (hx:As w G (.osl id) u):
 ∃ ad cap,u= .slice ad len cap:=by
 obtain⟨hm,hid⟩:=RO he
 have hE:=h.store e hm
 unfold Ck at hE
 rw [hrow]at hE
 obtain⟨hl,v,hown,hcase⟩:=hE
 simp only [As]at hx
 rw [hid]at hown
 rw [hown]at hx
 obtain⟨hx,_⟩:=hx
 injection hx with hx;subst hx
 rcases hcase with ⟨p,rfl,h0,_⟩ | ⟨b,cap,cur,rfl,_⟩
 ·exact⟨p,0,by rw [h0]⟩
 ·exact⟨_,cap,rfl⟩
theorem jj {P:Program} {F:Fr} {st:St} {a:Act} {w:World} {G:Bp} (h:R F st a w G) {t ty:TypeId} {x:V} {u:Value} (hx:Am w G x u) (hs:(OS P t st x).1):
 ∃ r,Am w G (OS P t st x).2 r∧ ∀ w',(Builtin.len_ #[t] ty #[u]).run P w'= .ok r w':=by
 unfold OS at *
 split at hs
 ·simp only [Am,As]at hx;subst hx
  exact⟨_,(Bl rfl).2 rfl,fun w'=>by simp [Builtin.len_,Sem.run_bind,run_underlying (Fy hs),goInt,jg,Hv]⟩
 ·obtain⟨e,he⟩:=GW hs
  simp only [Am,As]at hx
  obtain⟨_,ad,cap,rfl,_⟩:=hx
  exact⟨_,(Bl rfl).2 rfl,fun w'=>by simp [Builtin.len_,Sem.run_bind,run_underlying he,goInt,Hv]⟩
 ·split at hs
  ·rename_i e hlk
   split at hs
   ·rename_i E n len hrow
    obtain⟨el,he⟩:=GW hs
    obtain⟨ad,cap,rfl⟩:=nK h hlk hrow (by simpa [Am] using hx)
    exact⟨_,(Bl rfl).2 rfl,fun w'=>by simp [Builtin.len_,Sem.run_bind,run_underlying he,goInt,Hv]⟩
   ·exact hs.elim
  ·exact hs.elim
 ·obtain⟨e,he⟩:=GW hs
  simp only [Am,As]at hx
  obtain⟨b,cap,hb,rfl,hc⟩:=hx
  exact⟨_,(Bl rfl).2 rfl,fun w'=>by simp [Builtin.len_,Sem.run_bind,run_underlying he,goInt,Hv]⟩
 ·split at hs
  ·rename_i k el n hae
   obtain⟨hu,_⟩:=Ko hae
   exact⟨_,(Bl rfl).2 rfl,fun w'=>by simp [Builtin.len_,Sem.run_bind,run_underlying hu,goInt,Hv]⟩
  ·exact hs.elim
def GH:List V→Option (IntKind×Int×List Int)
 | [.c (.int k x)]=>some (k,x,[])
 | .c (.int k x)::vs=>match GH vs with
   | some (_,y,ys)=>some (k,x,y::ys)
   | none=>none
 | _=>none
def jk (vs:List V):Prop×V:=
 match GH vs with
 | some (k,x,ys)=>(True, .c (.int k (ys.foldl (fun a y=>if y<a then y else a) x)))
 | none=>no
def jl (vs:List V):Prop×V:=
 match GH vs with
 | some (k,x,ys)=>(True, .c (.int k (ys.foldl (fun a y=>if a<y then y else a) x)))
 | none=>no
theorem OT {w:World} {G:Bp}: ∀ {vs:List V} {us:List Value} {k:IntKind} {x:Int} {ys:List Int},GH vs=some (k,x,ys)→AO w G vs us→
 ∃ ks:List IntKind,us= .int k x::(ks.zip ys).map (fun p=>Value.int p.1 p.2)∧ks.length=ys.length
 | [],us,k,x,ys,h,_=>by simp [GH]at h
 | [v],us,k,x,ys,h,hr=>by
   unfold GH at h
   split at h
   ·rename_i k' x' he
    injection he with he _;subst he
    simp only [Option.some.injEq,Prod.mk.injEq]at h
    obtain⟨rfl,rfl,rfl⟩:=h
    simp only [AO,Am,As]at hr
    obtain⟨v,r,rfl,rfl,rfl⟩:=hr
    exact⟨[],by simp⟩
   ·rename_i k' x' vs' hne he
    injection he with _ he
    subst he
    split at h
    ·rename_i q;simp [GH]at q
    ·cases h
   ·cases h
 | v::v2::vs,us,k,x,ys,h,hr=>by
   unfold GH at h
   split at h
   ·rename_i he;injection he with _ he;cases he
   ·rename_i k' x' vs' hne he
    injection he with he1 he2
    subst he1 he2
    split at h
    ·rename_i k2 y ys' q
     simp only [Option.some.injEq,Prod.mk.injEq]at h
     obtain⟨rfl,rfl,rfl⟩:=h
     rw [AO]at hr
     obtain⟨u,r,rfl,h1,h2⟩:=hr
     simp only [Am,As]at h1;subst h1
     obtain⟨ks,e,hl⟩:=OT q h2
     exact⟨k2::ks,by rw [e];simp,by simp [hl]⟩
    ·cases h
   ·cases h
theorem PP {P:Program} (w:World) (k:IntKind): ∀ (ks:List IntKind) (ys:List Int) (x:Int),ks.length=ys.length→
 (((ks.zip ys).map (fun p=>Value.int p.1 p.2)).foldlM Builtin.min2 (.int k x)).run P w= .ok (.int k (ys.foldl (fun a y=>if y<a then y else a) x)) w
 | [],[],x,_=>by simp
 | [],_::_,_,h=>by simp at h
 | _::_,[],_,h=>by simp at h
 | k'::ks,y::ys,x,h=>by
   simp only [List.zip_cons_cons,List.map_cons,List.foldlM_cons,List.foldl_cons,Sem.run_bind,Builtin.min2,Sem.run_pure,Result.andThen_ok]
   exact PP w k ks ys _ (by simpa using h)
theorem PQ {P:Program} (w:World) (k:IntKind): ∀ (ks:List IntKind) (ys:List Int) (x:Int),ks.length=ys.length→
 (((ks.zip ys).map (fun p=>Value.int p.1 p.2)).foldlM Builtin.max2 (.int k x)).run P w= .ok (.int k (ys.foldl (fun a y=>if a<y then y else a) x)) w
 | [],[],x,_=>by simp
 | [],_::_,_,h=>by simp at h
 | _::_,[],_,h=>by simp at h
 | k'::ks,y::ys,x,h=>by
   simp only [List.zip_cons_cons,List.map_cons,List.foldlM_cons,List.foldl_cons,Sem.run_bind,Builtin.max2,Sem.run_pure,Result.andThen_ok]
   exact PQ w k ks ys _ (by simpa using h)
theorem jm {P:Program} {vs:List V} {us:Array Value} {w:World} {G:Bp} {ts:Array TypeId} {ty:TypeId} (hx:AO w G vs us.toList) (hs:(jk vs).1):
 ∃ r,Am w G (jk vs).2 r∧ ∀ w',(Builtin.min_ ts ty us).run P w'= .ok r w':=by
 unfold jk at *
 split at hs
 ·rename_i k x ys h
  obtain⟨ks,e,hl⟩:=OT h hx
  exact⟨_,(Bl rfl).2 rfl,fun w'=>by simp only [Builtin.min_,e];exact PP w' k ks ys x hl⟩
 ·exact hs.elim
theorem jo {P:Program} {vs:List V} {us:Array Value} {w:World} {G:Bp} {ts:Array TypeId} {ty:TypeId} (hx:AO w G vs us.toList) (hs:(jl vs).1):
 ∃ r,Am w G (jl vs).2 r∧ ∀ w',(Builtin.max_ ts ty us).run P w'= .ok r w':=by
 unfold jl at *
 split at hs
 ·rename_i k x ys h
  obtain⟨ks,e,hl⟩:=OT h hx
  exact⟨_,(Bl rfl).2 rfl,fun w'=>by simp only [Builtin.max_,e];exact PQ w' k ks ys x hl⟩
 ·exact hs.elim
end Go.PL
namespace Go.PL
open Go Go.RowKit
def bnd (p:Prop×V) (f:V→Prop×V):Prop×V:=(p.1∧(f p.2).1,(f p.2).2)
def St.args (st:St) (g:Bool):List Operand→Prop×List V
 | []=>(True,[])
 | x::xs=>((st.arg g x).1∧(st.args g xs).1,(st.arg g x).2::(st.args g xs).2)
def OU:V→Option (Bool×Bool)
 | .c (.bool q)=>some (true,q)
 | .g c (.c (.bool q))=>some (c,q)
 | _=>none
def VW (p:Bool) (a b:V):Prop×V:=
 match OU a,OU b with
 | some (ca,q),some (cb,r)=>((p=true→ca=true)∧(p=false→cb=true), .c (.bool (if p then q else r)))
 | _,_=>no
def UW:V→Prop×V
 | .c (.ptr id off)=>(True, .c (.ptr id off))
 | .c (.iptr cs off)=>(True, .c (.iptr cs off))
 | .c (.fn f)=>(True, .c (.fn f))
 | .c (.clo f cs)=>(True, .c (.clo f cs))
 | .c (.bmv f cs)=>(True, .c (.bmv f cs))
 | _=>no
def nL (i:Nat):V→Prop×V
 | .tup vs=>(i<vs.length,vs.getD i .undef)
 | _=>no
def Cy (st:St) (g:Bool):Option Operand→Prop×Option V
 | none=>(True,none)
 | some x=>((st.arg g x).1,some (st.arg g x).2)
def OV (P:Program) (st:St) (g:Bool) (b:Builtin) (xs:List Operand) (ts:List TypeId):Prop×V:=
 match b,xs,ts with
 | .len,[x],[t]=>bnd (st.arg g x) (OS P t st)
 | .min,xs,_=>((st.args g xs).1∧(jk (st.args g xs).2).1,(jk (st.args g xs).2).2)
 | .max,xs,_=>((st.args g xs).1∧(jl (st.args g xs).2).1,(jl (st.args g xs).2).2)
 | _,_,_=>no
def rd (P:Program) (st:St) (g:Bool):Op→Prop×V
 | .move x=>st.arg g x
 | .assign x=>st.arg g x
 | .pick c a b=>bnd (st.arg g c) fun p=>match p with
   | .c (.bool q)=>VW q (st.ev a) (st.ev b)
   | _=>no
 | .load t x=>bnd (st.arg g x) (Eo P t st)
 | .nilCheck x=>bnd (st.arg g x) UW
 | .binOp op t x y _=>bnd (st.arg g x) fun u=>bnd (st.arg g y) fun v=>UV P op t (BQ x||BQ y) u v
 | .unOp op _ x=>bnd (st.arg g x) (sF op)
 | .convert src dst x=>bnd (st.arg g x) (IC P src dst st)
 | .slice t x lo hi none=>bnd (st.arg g x) fun u=>((Cy st g lo).1∧(Cy st g hi).1∧(FA P t u (Cy st g lo).2 (Cy st g hi).2).1,(FA P t u (Cy st g lo).2 (Cy st g hi).2).2)
 | .fieldAddr s x f=>bnd (st.arg g x) (BW P s f)
 | .field t x f=>bnd (st.arg g x) (Hw P t f)
 | .indexAddr t x i=>bnd (st.arg g x) fun u=>bnd (st.arg g i) fun v=>B6 P t st u v
 | .index t x i=>bnd (st.arg g x) fun u=>bnd (st.arg g i) fun v=>GG P t u v
 | .extract x i=>bnd (st.arg g x) (nL i)
 | .call c=>match c.callee with
   | .builtin b=>OV P st g b c.args.toList c.argTypes.toList
   | _=>no
 | _=>no
theorem VX {w:World} {G:Bp} {x:V} {v:Value} {c q:Bool} (h:OU x=some (c,q)) (hr:Am w G x v) (hc:c=true):v= .bool q:=by
 unfold OU at h
 split at h
 ·simp only [Option.some.injEq,Prod.mk.injEq]at h;obtain⟨rfl,rfl⟩:=h;simpa [Am,As] using hr
 ·simp only [Option.some.injEq,Prod.mk.injEq]at h;obtain⟨rfl,rfl⟩:=h
  simp only [Am]at hr;rw [if_pos hc]at hr;simpa [As] using hr
 ·cases h
theorem R.args {F:Fr} {st:St} {a:Act} {w:World} {G:Bp} (h:R F st a w G) {g:Bool} (hg:g=true): ∀ {xs:List Operand},(st.args g xs).1→AO w G (st.args g xs).2 (xs.map a.eval)
 | [],_=>by simp [St.args,AO]
 | x::xs,hs=>by
   simp only [St.args]at hs ⊢
   simp only [AO,List.map_cons]
   exact⟨_,_,rfl,h.arg hg hs.1,h.args hg hs.2⟩
theorem JE {w:World} {G:Bp}: ∀ {xs:List V} {vs:List Value},AO w G xs vs→ ∀ i,i<xs.length→ ∃ v,vs[i]? =some v∧Am w G (xs.getD i .undef) v
 | [],vs,h,i,hi=>by simp at hi
 | x::xs,vs,h,i,hi=>by
   simp only [AO]at h
   obtain⟨v,r,rfl,h1,h2⟩:=h
   cases i with
   | zero=>exact⟨v,by simp,by simpa using h1⟩
   | succ i=>
     obtain⟨v',q1,q2⟩:=JE h2 i (by simpa using hi)
     exact⟨v',by simpa using q1,by simpa using q2⟩
theorem VY {F:Fr} {st:St} {a:Act} {w:World} {G:Bp} (h:R F st a w G) {g:Bool} (hg:g=true) {x:Option Operand} (hs:(Cy st g x).1):Hx w G (Cy st g x).2 (x.map a.eval):=by
 cases x with
 | none=>simp [Cy,Hx]
 | some x=>simp only [Cy,Option.map,Hx]at hs ⊢;exact h.arg hg hs
theorem ey {P:Program} {F:Fr} {st:St} {a:Act} {w:World} {G:Bp} (h:R F st a w G) {g:Bool} (hg:g=true) {o:Oper} (hs:(rd P st g o.op).1):
 ∃ v,Am w G (rd P st g o.op).2 v∧ ∀ w',Ft w w'→(execOp a.eval o).run P w'= .ok (.value v) w':=by
 cases ho:o.op<;>simp only [rd,ho,bnd]at hs ⊢ <;>try (exact hs.elim)
 case move x=>exact⟨_,h.arg hg hs,fun w' _=>by simp [execOp,ho]⟩
 case assign x=>exact⟨_,h.arg hg hs,fun w' _=>by simp [execOp,ho]⟩
 case pick c x y=>
  obtain⟨h1,h2⟩:=hs
  have hc:=h.arg hg h1
  split at h2
  ·rename_i q hq
   rw [hq]at hc
   simp only [Am,As]at hc
   unfold VW at h2 ⊢
   split at h2
   ·rename_i ca qa cb qb e1 e2
    cases q with
    | true=>
      have:=VX e1 (h.ev x) (h2.1 rfl)
      exact⟨.bool qa,by simp [Am,As],fun w' _=>by simp [execOp,ho,hc,asBool,this]⟩
    | false=>
      have:=VX e2 (h.ev y) (h2.2 rfl)
      exact⟨.bool qb,by simp [Am,As],fun w' _=>by simp [execOp,ho,hc,asBool,this]⟩
   ·exact h2.elim
  ·exact h2.elim
 case load t x=>
  obtain⟨v,q1,q2⟩:=LT (P:=P) h (h.arg hg hs.1) hs.2
  exact⟨v,q1,fun w' hw'=>by simp [execOp,ho,q2 w' hw']⟩
 case nilCheck x=>
  obtain⟨h1,h2⟩:=hs
  have hx:=h.arg hg h1
  unfold UW at h2 ⊢
  split at h2
  ·rename_i id off e
   rw [e]at hx
   simp only [Am,As]at hx ⊢
   obtain⟨b,hb,hv⟩:=hx
   exact⟨_,⟨b,hb,rfl⟩,fun w' _=>by simp [execOp,ho,hv]⟩
  ·rename_i cs off e
   rw [e]at hx
   simp only [Am,As]at hx ⊢
   obtain⟨hp,b,o',hv,k1⟩:=hx
   exact⟨_,⟨hp,b,o',rfl,k1⟩,fun w' _=>by simp [execOp,ho,hv]⟩
  ·rename_i f e
   rw [e]at hx
   simp only [Am,As]at hx ⊢
   exact⟨_,rfl,fun w' _=>by simp [execOp,ho,hx]⟩
  ·rename_i f cs e
   rw [e]at hx
   simp only [Am,As]at hx ⊢
   obtain⟨arr,hv,hr⟩:=hx
   exact⟨_,⟨arr,rfl,hr⟩,fun w' _=>by simp [execOp,ho,hv]⟩
  ·rename_i f cs e
   rw [e]at hx
   simp only [Am,As]at hx ⊢
   obtain⟨arr,hv,hr⟩:=hx
   exact⟨_,⟨arr,rfl,hr⟩,fun w' _=>by simp [execOp,ho,hv]⟩
  ·exact h2.elim
 case binOp op t x y t'=>
  obtain⟨v,q1,q2⟩:=jh (P:=P) (ox:=x) (oy:=y) (h.arg hg hs.1) (h.arg hg hs.2.1) hs.2.2
  refine⟨v,q1,fun w' hw'=>?_⟩
  have:=q2 w'
  simp only [execOp,ho,Sem.run_bind]at this ⊢
  rw [this];rfl
 case unOp op t x=>
  obtain⟨v,q1,q2⟩:=nJ (P:=P) (h.arg hg hs.1) hs.2
  exact⟨v,q1,fun w' hw'=>by simp [execOp,ho,q2 w']⟩
 case convert src dst x=>
  obtain⟨v,q1,q2⟩:=eu (P:=P) h (h.arg hg hs.1) hs.2
  exact⟨v,q1,fun w' hw'=>by simp [execOp,ho,q2 w' hw']⟩
 case slice t x lo hi mx=>
  cases mx with
  | some _=>exact hs.elim
  | none=>
    simp only [bnd]at hs ⊢
    obtain⟨v,q1,q2⟩:=bG (P:=P) (h.arg hg hs.1) (VY h hg hs.2.1) (VY h hg hs.2.2.1) hs.2.2.2
    exact⟨v,q1,fun w' hw'=>by simp [execOp,ho,q2 w']⟩
 case fieldAddr s x f=>
  obtain⟨v,q1,q2⟩:=RR (P:=P) (h.arg hg hs.1) hs.2
  exact⟨v,q1,fun w' hw'=>by simp [execOp,ho,q2 w']⟩
 case field s x f=>
  obtain⟨v,q1,q2⟩:=bD (P:=P) (h.arg hg hs.1) hs.2
  exact⟨v,q1,fun w' hw'=>by simp [execOp,ho,q2 w']⟩
 case indexAddr t x i=>
  obtain⟨v,q1,q2⟩:=RS (P:=P) h (h.arg hg hs.1) (h.arg hg hs.2.1) hs.2.2
  exact⟨v,q1,fun w' hw'=>by simp [execOp,ho,q2 w']⟩
 case index t x i=>
  obtain⟨v,q1,q2⟩:=bF (P:=P) (h.arg hg hs.1) (h.arg hg hs.2.1) hs.2.2
  exact⟨v,q1,fun w' hw'=>by simp [execOp,ho,q2 w']⟩
 case extract x i=>
  obtain⟨h1,h2⟩:=hs
  have hx:=h.arg hg h1
  unfold nL at h2 ⊢
  split at h2
  ·rename_i vs e
   rw [e]at hx
   simp only [Am]at hx
   obtain⟨arr,hv,hr⟩:=hx
   obtain⟨v,q1,q2⟩:=JE hr i h2
   have q1':arr[i]? =some v:=by simpa using q1
   exact⟨v,q2,fun w' _=>by simp [execOp,ho,hv,Instr.extract,q1']⟩
  ·exact h2.elim
 case call c=>
  split at hs
  ·rename_i b hcal
   unfold OV at hs ⊢
   split at hs
   ·rename_i x t hxs hts
    have ea:c.args= #[x]:=by apply Array.ext';simpa using hxs
    have et:c.argTypes= #[t]:=by apply Array.ext';simpa using hts
    obtain⟨v,q1,q2⟩:=jj (P:=P) (ty:=o.type) h (h.arg hg hs.1) hs.2
    refine⟨v,q1,fun w' _=>?_⟩
    simp [execOp,ho,resolve,hcal,ea,et,invoke,builtin,q2 w']
   ·rename_i xs ts hxs
    obtain⟨v,q1,q2⟩:=jm (P:=P) (ts:=c.argTypes) (ty:=o.type) (us:=c.args.map a.eval) (by simpa using h.args hg hs.1) hs.2
    exact⟨v,q1,fun w' _=>by simp [execOp,ho,resolve,hcal,invoke,builtin,q2 w']⟩
   ·obtain⟨v,q1,q2⟩:=jo (P:=P) (ts:=c.argTypes) (ty:=o.type) (us:=c.args.map a.eval) (by simpa using h.args hg hs.1) hs.2
    exact⟨v,q1,fun w' _=>by simp [execOp,ho,resolve,hcal,invoke,builtin,q2 w']⟩
   ·exact hs.elim
  ·exact hs.elim
end Go.PL
namespace Go.PL
open Go Go.RowKit
def Gb (id:AC) (c:C):C:=if c.men id then .any else c
def Gc (id:AC) (v:V):V:=if v.men id then .undef else v
def AY.kill (id:AC) (e:AY):AY:=match e with
 | ⟨i,r,cs,true⟩=>⟨i,r,cs,true⟩
 | ⟨i,r,cs,false⟩=>⟨i,r,cs.map (Gb id),false⟩
theorem AY.kill_id (id:AC) (e:AY):(e.kill id).id =e.id:=by obtain⟨i,r,cs,_ | _⟩:=e<;>rfl
theorem AY.kill_row (id:AC) (e:AY):(e.kill id).row =e.row:=by obtain⟨i,r,cs,_ | _⟩:=e<;>rfl
def St.kill (st:St) (id:AC):St:={tm:=st.tm.map (Gc id),so:=(st.so.filter (fun e=>e.id != id&& !(Fs id&&Lo e.id))).map (AY.kill id),gh:=st.gh.map (Gc id),pre:=st.pre}
def Zr (e:AY) (l:List AY):List AY:=match Fs e.id||Lo e.id with
 | true=>l
 | false=>e::l
def St.new (st:St) (e:AY):St:={tm:=(st.kill e.id).tm,so:=Zr (e.kill e.id) (st.kill e.id).so,gh:=(st.kill e.id).gh,pre:=st.pre}
theorem RU {e x:AY} {l:List AY} (h:x∈Zr e l):x=e∧Fs e.id=false∧Lo e.id=false∨x∈l:=by
 unfold Zr at h
 split at h
 ·exact .inr h
 ·rename_i hq
  rcases List.mem_cons.1 h with h | h
  ·exact .inl ⟨h,by simpa using hq⟩
  ·exact .inr h
def Ep (F:Fr) (G:Bp) (id:AC) (b:Option Nat) (v:Option Value):Bp where
 blk:=fun i=>if i=id then b else G.blk i
 own:=fun i=>if i=id then v else G.own i
 wr:=fun x=>F.av x∨ ∃ i,(if i=id then b else G.blk i)=some x
theorem nM (id:AC) (c:C):(Gb id c).men id=false:=by
 unfold Gb;split
 ·simp [C.men]
 ·simp_all
theorem Zs (id:AC) (v:V):(Gc id v).men id=false:=by
 unfold Gc;split
 ·simp [V.men]
 ·simp_all
theorem RV (id:AC): ∀ cs:List C,Cw id (cs.map (Gb id))=false
 | []=>by simp [Cw]
 | c::cs=>by simp [Cw,nM,RV id cs]
theorem nN {w:World} {G:Bp} {id:AC} {c:C} {v:Value} (h:As w G c v):As w G (Gb id c) v:=by
 unfold Gb;split
 ·simp only [As];exact h.one
 ·exact h
theorem RW {w:World} {G:Bp} {id:AC}: ∀ {cs:List C} {vs:List Value},AG w G cs vs→AG w G (cs.map (Gb id)) vs
 | [],[],_=>by simp [AG]
 | [],_::_,h=>by simp [AG]at h
 | _::_,[],h=>by simp [AG]at h
 | c::cs,v::vs,h=>by
   simp only [AG]at h
   simp only [List.map_cons,AG]
   exact⟨nN h.1,RW h.2⟩
theorem TN {w:World} {G:Bp} {id:AC} {cs:List C} {b o:Nat} (h:AE w G cs b o):AE w G (cs.map (Gb id)) b o:=by
 obtain⟨vs,h1,h2⟩:=h.list
 exact AE.of_list (RW h1) h2
theorem Zt {w:World} {G:Bp} {id:AC} {x:V} {v:Value} (h:Am w G x v):Am w G (Gc id x) v:=by
 unfold Gc;split
 ·simp only [Am]
 ·exact h
theorem VZ {w:World} {G:Bp} {id:AC}: ∀ {xs:List V} {vs:List Value},AO w G xs vs→AO w G (xs.map (Gc id)) vs
 | [],_,h=>by simpa [AO] using h
 | x::xs,vs,h=>by
   simp only [AO]at h
   obtain⟨v,r,e,h1,h2⟩:=h
   simp only [List.map_cons,AO]
   exact⟨v,r,e,Zt h1,VZ h2⟩
theorem V0 (id:AC): ∀ xs:List V,LN id (xs.map (Gc id))=false
 | []=>by simp [LN]
 | x::xs=>by simp [LN,Zs,V0 id xs]
theorem nO {w:World} {G:Bp} {id:AC} {e:AY} (h:Ck w G e):Ck w G (e.kill id):=by
 obtain⟨i,r,cs,pu⟩:=e
 cases pu with
 | true=>exact h
 | false=>
 unfold Ck at *
 simp only [AY.kill]
 simp only at h
 split at h
 ·obtain⟨b,h1,h2⟩:=h
  refine⟨b,h1,?_⟩
  rcases h2 with ⟨kv,es,rfl,h2⟩ | ⟨T,cur,h2,h3,h4⟩
  ·exact .inl ⟨kv,es,by simp [Gb,C.men],h2⟩
  ·exact .inr ⟨T,cur,h2,by simpa using h3,TN h4⟩
 ·obtain⟨hl,v,h1,h2⟩:=h
  refine⟨by simpa using hl,v,h1,?_⟩
  rcases h2 with h2 | ⟨b,cap,cur,e1,e2,e3,e4,e5,e6,e7⟩
  ·exact .inl h2
  ·exact .inr ⟨b,cap,cur,e1,e2,e3,e4,e5,e6,TN e7⟩
theorem Zu {id:AC} {e:AY} (h:e.pu=true→AJ e.cs=true):(e.kill id).pu =true→AJ (e.kill id).cs =true:=by
 obtain⟨i,r,cs,pu⟩:=e
 cases pu with
 | true=>exact h
 | false=>intro hq;cases hq
theorem pL {id:AC} {e:AY} (h:e.pu=true→AJ e.cs=true):Cw id (e.kill id).cs =false:=by
 obtain⟨i,r,cs,pu⟩:=e
 cases pu with
 | true=>exact BP id cs (h rfl)
 | false=>exact RV id cs
theorem Ds {w w':World} {G G':Bp} (hk:Fv G G' w w') {e:AY} (ha:Ln (fun id=>Cw id e.cs=true) G G') (hid:G'.blk e.id=G.blk e.id∧G'.own e.id=G.own e.id)
 (hb: ∀ b,G.blk e.id=some b→w'.heap[b]? =w.heap[b]?) (h:Ck w G e):Ck w' G' e:=by
 unfold Ck at *
 split at h
 ·obtain⟨b,h1,h2⟩:=h
  refine⟨b,by rw [hid.1];exact h1,?_⟩
  rcases h2 with ⟨kv,es,h2,h3,h4⟩ | ⟨T,cur,h2,h3,h4⟩
  ·exact .inl ⟨kv,es,h2,by rw [hb b h1];exact h3,h4⟩
  ·exact .inr ⟨T,cur,by rw [hb b h1];exact h2,h3,AE.mono hk _ _ _ ha (fun o=>cell?_of_block' (hb b h1) o) h4⟩
 ·obtain⟨hl,v,h1,h2⟩:=h
  refine⟨hl,v,by rw [hid.2];exact h1,?_⟩
  rcases h2 with ⟨p,e1,e2,e3⟩ | ⟨b,cap,cur,e1,e2,e3,e4,e5,e6,e7⟩
  ·exact .inl ⟨p,e1,e2,by rw [hid.1];exact e3⟩
  ·exact .inr ⟨b,cap,cur,e1,by rw [hid.1];exact e2,by rw [hb b e2];exact e3,e4,e5,e6,AE.mono hk _ _ _ ha (fun o=>cell?_of_block' (hb b e2) o) e7⟩
theorem GV.mono {w w':World} {G G':Bp} (hk:Fv G G' w w') {e:AY} (hid:G'.blk e.id=G.blk e.id∧G'.own e.id=G.own e.id) (hmk: ∀ k,G'.blk (CM k e.id)=G.blk (CM k e.id)∧G'.own (CM k e.id)=G.own (CM k e.id))
 (hb: ∀ b,G.blk e.id=some b→w'.heap[b]? =w.heap[b]?) (hbm: ∀ k b,G.blk (CM k e.id)=some b→w'.heap[b]? =w.heap[b]?) (h:GV w G e):GV w' G' e:=fun k E n len cs q=>by
 obtain⟨h1,h2,b,v,h3,h4,h5⟩:=h k E n len cs q
 refine⟨h1,Ds hk (e:=⟨CM k e.id,some (E,n,len),cs,true⟩) (fun i hi=>absurd (show Cw i cs=true from hi) (by rw [BP i cs h1];simp)) (hmk k) (hbm k) h2,b,v,by rw [hid.1];exact h3,?_,by rw [(hmk k).2];exact h5⟩
 rw [cell?_of_block' (hb b h3)];exact h4
theorem DA.mono {w w':World} {G G':Bp} (hk:Fv G G' w w') {e:AY} (hid:G'.blk e.id=G.blk e.id∧G'.own e.id=G.own e.id) (hmk:Lo e.id=true→ ∀ k,G'.blk (CM k e.id)=G.blk (CM k e.id)∧G'.own (CM k e.id)=G.own (CM k e.id))
 (hb: ∀ b,G.blk e.id=some b→w'.heap[b]? =w.heap[b]?) (hbm:Lo e.id=true→ ∀ k b,G.blk (CM k e.id)=some b→w'.heap[b]? =w.heap[b]?) (h:DA w G e):DA w' G' e:=
 ⟨h.1,fun hd=>⟨(h.2 hd).1,(h.2 hd).2.1,(h.2 hd).2.2.mono hk hid (hmk hd) hb (hbm hd)⟩⟩
theorem DA.kill {w:World} {G:Bp} {e:AY} {id:AC} (h:DA w G e):DA w G (e.kill id):=by
 obtain⟨i,r,cs,pu⟩:=e
 cases pu with
 | true=>exact h
 | false=>exact⟨h.1,fun hd=>absurd (h.2 hd).1 (by simp)⟩
theorem DA.triv {w:World} {G:Bp} {e:AY} (h1:Fs e.id=false) (h2:Lo e.id=false):DA w G e:=⟨h1,fun hd=>by rw [h2]at hd;cases hd⟩
theorem TO {st:St} {f:V→V} (hf:f .undef = .undef) (i:Nat):(st.tm.map f).getD i .undef =f (st.tm.getD i .undef):=by
 simp only [List.getD_eq_getElem?_getD,List.getElem?_map]
 cases st.tm[i]? <;>simp [hf]
structure PR (w w':World):Prop where
 os:w'.os=w.os
 tape:w'.tape=w.tape
 output:w'.output=w.output
theorem R.rename {F:Fr} {st:St} {a:Act} {w w':World} {G:Bp} (h:R F st a w G) (id:AC) (nb:Option Nat) (nv:Option Value)
 (ho:PR w w') (hs:w.heap.size≤w'.heap.size)
 (hext: ∀ b,b<F.w0.heap.size→ ¬F.old b→w'.heap[b]? =w.heap[b]?)
 (hn: ∀ b,nb=some b→(w.heap.size≤b∨G.blk id=some b)∧b<w'.heap.size) (st':St)
 (htm:st'.tm.length=st.tm.length) (hsl: ∀ i,Am w' (Ep F G id nb nv) (st'.tm.getD i .undef) (a.tmps.getD i Go.undef))
 (hgh:AO w' (Ep F G id nb nv) st'.gh F.gv) (hpu: ∀ e∈st'.so,e.pu=true→AJ e.cs=true) (hso: ∀ e∈st'.so,Ck w' (Ep F G id nb nv) e) (hdp: ∀ e∈st'.so,DA w' (Ep F G id nb nv) e) (hnd:(st'.so.map (·.id)).Nodup):R F st' a w' (Ep F G id nb nv) where
 dfr:=h.dfr
 size:=by rw [htm];exact h.size
 slots:=hsl
 ghosts:=hgh
 pures:=hpu
 store:=hso
 deep:=hdp
 nodup:=hnd
 inj:=by
  intro i j b hi hj
  simp only [Ep]at hi hj
  split at hi<;>split at hj
  ·simp_all
  ·rename_i q1 q2
   rcases (hn b hi).1 with q | q
   ·exact absurd (h.lt j b hj) (by omega)
   ·exact absurd (h.inj j id b hj q) q2
  ·rename_i q1 q2
   rcases (hn b hj).1 with q | q
   ·exact absurd (h.lt i b hi) (by omega)
   ·exact absurd (h.inj i id b hi q) q1
  ·exact h.inj i j b hi hj
 lt:=by
  intro i b hi
  simp only [Ep]at hi
  split at hi
  ·exact(hn b hi).2
  ·exact Nat.lt_of_lt_of_le (h.lt i b hi) hs
 new:=by
  intro i b hi
  simp only [Ep]at hi
  split at hi
  ·rcases (hn b hi).1 with q | q
   ·exact .inl (Nat.le_trans h.hsize q)
   ·exact h.new id b q
  ·exact h.new i b hi
 wr:=fun b=>Iff.rfl
 avlt:=h.avlt
 inv:=h.inv
 avold:=h.avold
 os:=ho.os.trans h.os
 tape:=ho.tape.trans h.tape
 output:=ho.output.trans h.output
 hsize:=Nat.le_trans h.hsize hs
 ext:=fun b hb hold=>(hext b hb hold).trans (h.ext b hb hold)
theorem R.keeps {F:Fr} {st:St} {a:Act} {w w':World} {G:Bp} (h:R F st a w G) (id:AC) (nb:Option Nat) (nv:Option Value)
 (hs:w.heap.size≤w'.heap.size) (hblk: ∀ b,b<w.heap.size→(G.blk id ≠ some b)→w'.heap[b]? =w.heap[b]?)
 (hn: ∀ b,nb=some b→w.heap.size≤b∨(G.blk id=some b∧DG w w' b)):Fv G (Ep F G id nb nv) w w' where
 size:=hs
 block:=fun b hb hw=>hblk b hb (fun he=>hw ((h.wr b).2 (.inr ⟨id,he⟩)))
 wr:=by
  intro b hb hw
  simp only [Ep]at hw
  rw [h.wr]
  rcases hw with hw | ⟨i,hi⟩
  ·exact .inl hw
  ·split at hi
   ·rcases hn b hi with q | q
    ·omega
    ·exact .inr ⟨id,q.1⟩
   ·exact .inr ⟨i,hi⟩
 ty:=by
  intro i b h1 h2
  have hb:=h.lt i b h1
  simp only [Ep]at h2
  split at h2
  ·rcases hn b h2 with q | q
   ·omega
   ·exact q.2
  ·rename_i hne
   exact DG.same (hblk b hb (fun q=>hne (h.inj _ _ b h1 q)))
theorem JF {F:Fr} {G:Bp} {id:AC} {nb:Option Nat} {nv:Option Value} {S:AC→Prop} (hS: ∀ i,S i→i ≠ id):Ln S G (Ep F G id nb nv):=
 fun i hi=>by simp [Ep,hS i hi]
theorem R.set {F:Fr} {st:St} {a:Act} {w w':World} {G:Bp} (h:R F st a w G) (e:AY) (nb:Option Nat) (nv:Option Value)
 (ho:PR w w') (hs:w.heap.size≤w'.heap.size) (hblk: ∀ b,b<w.heap.size→(G.blk e.id ≠ some b)→w'.heap[b]? =w.heap[b]?)
 (hext: ∀ b,b<F.w0.heap.size→ ¬F.old b→w'.heap[b]? =w.heap[b]?)
 (hn: ∀ b,nb=some b→(w.heap.size≤b∨(G.blk e.id=some b∧DG w w' b))∧b<w'.heap.size) (hp:e.pu=true→AJ e.cs=true) (he:Ck w' (Ep F G e.id nb nv) (e.kill e.id)):R F (st.new e) a w' (Ep F G e.id nb nv):=by
 have hk:=h.keeps e.id nb nv hs hblk (fun b hb=>(hn b hb).1)
 refine h.rename e.id nb nv ho hs hext (fun b hb=>⟨(hn b hb).1.imp id And.left,(hn b hb).2⟩) (st.new e) (by simp [St.new,St.kill]) ?_ ?_ ?_ ?_ ?_ ?_
 ·intro i
  simp only [St.new,St.kill]
  rw [TO (by simp [Gc,V.men])]
  exact Am.mono hk _ _ (JF (fun i hi he'=>by subst he';rw [Zs]at hi;cases hi)) (Zt (h.slots i))
 ·simp only [St.new,St.kill]
  exact AO.mono hk _ _ (JF (fun i hi he'=>by subst he';rw [V0]at hi;cases hi)) (VZ h.ghosts)
 ·intro e' he'
  simp only [St.new,St.kill]at he'
  rcases RU he' with ⟨rfl,_⟩ | he'
  ·exact Zu hp
  ·simp only [List.mem_map,List.mem_filter]at he'
   obtain⟨d,⟨hd,hne⟩,rfl⟩:=he'
   exact Zu (h.pures d hd)
 ·intro e' he'
  simp only [St.new,St.kill]at he'
  rcases RU he' with ⟨rfl,_⟩ | he'
  ·exact he
  ·simp only [List.mem_map,List.mem_filter,Bool.and_eq_true]at he'
   obtain⟨d,⟨hd,hne,_⟩,rfl⟩:=he'
   have hne':d.id ≠ e.id:=by simpa using hne
   refine Ds hk (JF (fun i hi he'=>by subst he';rw [pL (h.pures d hd)]at hi;cases hi)) (by simp [Ep,AY.kill_id,hne']) ?_ (nO (h.store d hd))
   intro b hb
   rw [AY.kill_id]at hb
   exact hblk b (h.lt _ b hb) (fun q=>hne' (h.inj _ _ b hb q))
 ·intro e' he'
  simp only [St.new,St.kill]at he'
  rcases RU he' with ⟨rfl,h1,h2⟩ | he'
  ·exact DA.triv h1 h2
  ·simp only [List.mem_map,List.mem_filter,Bool.and_eq_true]at he'
   obtain⟨d,⟨hd,hne,hmd⟩,rfl⟩:=he'
   have hne':d.id ≠ e.id:=by simpa using hne
   have hmk:Lo (d.kill e.id).id =true→ ∀ k,CM k (d.kill e.id).id ≠ e.id:=by
    intro hq k hk2
    rw [AY.kill_id]at hq hk2
    rw [←hk2,pI,hq]at hmd
    cases hmd
   refine DA.mono hk (by simp [Ep,AY.kill_id,hne']) (fun hq k=>by simp [Ep,hmk hq k]) ?_ (fun hq k b hb=>hblk b (h.lt _ b hb) (fun q=>hmk hq k (h.inj _ _ b hb q))) (h.deep d hd).kill
   intro b hb
   rw [AY.kill_id]at hb
   exact hblk b (h.lt _ b hb) (fun q=>hne' (h.inj _ _ b hb q))
 ·have hsub:List.Sublist (((st.new e).so.map (·.id))) (e.id::((st.so.filter (fun d=>d.id != e.id&& !(Fs e.id&&Lo d.id))).map (·.id))):=by
   simp only [St.new,St.kill,Zr]
   split
   ·simp only [List.map_map,Function.comp_def,AY.kill_id]
    exact List.Sublist.cons _ (List.Sublist.refl _)
   ·simp only [List.map_cons,List.map_map,Function.comp_def,AY.kill_id]
    exact List.Sublist.refl _
  refine List.Sublist.nodup hsub (List.nodup_cons.2 ⟨by simp;exact fun x _ h _=>h,?_⟩)
  exact List.Sublist.nodup (List.Sublist.map (fun d:AY=>d.id) List.filter_sublist) h.nodup
theorem R.put {F:Fr} {st:St} {a:Act} {w:World} {G:Bp} (h:R F st a w G) {d:Option Nat} {x:V} {v:Value} (hx:Am w G x v):R F (st.put d x) (a.put d v) w G:=by
 cases d with
 | none=>exact h
 | some d=>
   exact {
    dfr:=h.dfr
    size:=by simp [St.put,Act.put,h.size]
    slots:=by
     intro i
     simp only [St.put,Act.put]
     by_cases hi:i=d
     ·subst hi
      by_cases hl:i<st.tm.length
      ·simp [List.getD_eq_getElem?_getD,hl,h.size,hx]
      ·simp [List.getD_eq_getElem?_getD,hl,Am]
     ·have h1:(st.tm.set d x).getD i .undef =st.tm.getD i .undef :=by
       simp [List.getD_eq_getElem?_getD,List.getElem?_set,Ne.symm hi]
      have h2:(a.tmps.setIfInBounds d v).getD i Go.undef=a.tmps.getD i Go.undef:=by
       simp [Array.getD_eq_getD_getElem?,Array.getElem?_setIfInBounds,Ne.symm hi]
      rw [h1,h2];exact h.slots i
    ghosts:=by simpa [St.put] using h.ghosts
    store:=h.store,deep:=h.deep,pures:=h.pures,nodup:=h.nodup,inj:=h.inj,lt:=h.lt,new:=h.new,wr:=h.wr,avlt:=h.avlt,inv:=h.inv,avold:=h.avold,os:=h.os,tape:=h.tape,output:=h.output,hsize:=h.hsize,ext:=h.ext}
theorem R.same {F:Fr} {st:St} {a:Act} {w w':World} {G:Bp} (h:R F st a w G) (ho:PR w w') (hs:Ft w w'):R F st a w' G:=by
 have hk:Fv G G w w':=⟨hs.size,fun b hb _=>hs.block b hb,fun b _ h=>h,fun i b h1 _=>DG.same (hs.block b (h.lt i b h1))⟩
 exact {
  dfr:=h.dfr,size:=h.size
  slots:=fun i=>Am.mono hk _ _ (fun _ _=>⟨rfl,rfl⟩) (h.slots i)
  ghosts:=AO.mono hk _ _ (fun _ _=>⟨rfl,rfl⟩) h.ghosts
  store:=fun e he=>Ds hk (fun _ _=>⟨rfl,rfl⟩) ⟨rfl,rfl⟩ (fun b hb=>hs.block b (h.lt _ b hb)) (h.store e he)
  deep:=fun e he=>DA.mono hk ⟨rfl,rfl⟩ (fun _ _=>⟨rfl,rfl⟩) (fun b hb=>hs.block b (h.lt _ b hb)) (fun _ k b hb=>hs.block b (h.lt _ b hb)) (h.deep e he)
  pures:=h.pures
  nodup:=h.nodup,inj:=h.inj
  lt:=fun i b hb=>Nat.lt_of_lt_of_le (h.lt i b hb) hs.size
  new:=h.new,wr:=h.wr,avlt:=h.avlt,inv:=h.inv,avold:=h.avold
  os:=ho.os.trans h.os,tape:=ho.tape.trans h.tape,output:=ho.output.trans h.output
  hsize:=Nat.le_trans h.hsize hs.size
  ext:=fun b hb hold=>(hs.block b (Nat.lt_of_lt_of_le hb h.hsize)).trans (h.ext b hb hold)}
end Go.PL
namespace Go.PL
open Go Go.RowKit
theorem bH {w:World} {o:Obj} {b:Nat} (h:b<w.heap.size):(w.heap.push o)[b]? =w.heap[b]? :=by
 rw [Array.getElem?_push];split
 ·omega
 ·rfl
theorem EB (w:World) (o:Obj):(w.alloc o).heap =w.heap.push o:=rfl
theorem TP (w:World) (o:Obj):PR w (w.alloc o):=⟨rfl,rfl,rfl⟩
theorem V1 (w:World) (o:Obj):Ft w (w.alloc o):=⟨by simp [EB],fun b hb=>by rw [EB];exact bH hb⟩
theorem Jd {F:Fr} {st:St} {a:Act} {w w':World} {G:Bp} (h:R F st a w G) {id:AC} {nb:Option Nat} {nv:Option Value} (hk:Fv G (Ep F G id nb nv) w w')
 {cs:List C} {vs:List Value} {row:Option (TypeId×Nat×Nat)} {pu:Bool} (hp:pu=true→AJ cs=true) (hr:AG w G cs vs):AG w' (Ep F G id nb nv) (AY.kill id ⟨id,row,cs,pu⟩).cs vs:=by
 cases pu with
 | true=>exact AG.mono hk _ _ (JF (fun i hi he'=>by subst he';have:=BP i cs (hp rfl);simp only [AY.kill]at hi;rw [this]at hi;cases hi)) hr
 | false=>exact AG.mono hk _ _ (JF (fun i hi he'=>by subst he';simp only [AY.kill]at hi;rw [RV]at hi;cases hi)) (RW hr)
theorem PS {id:AC} {row:Option (TypeId×Nat×Nat)} {cs:List C} {pu:Bool}:(AY.kill id ⟨id,row,cs,pu⟩).cs.length =cs.length:=by cases pu<;>simp [AY.kill]
theorem pM {w:World} {G:Bp} {e:AY} (hrow:e.row=none) (h: ∃ b T cur,G.blk e.id=some b∧w.heap[b]? =some (.cells cur T (0,0))∧cur.size=e.cs.length∧AE w G e.cs b 0):Ck w G e:=by
 unfold Ck;rw [hrow]
 obtain⟨b,T,cur,h1,h2⟩:=h
 exact⟨b,h1, .inr ⟨T,cur,h2⟩⟩
theorem V2 {w:World} {G:Bp} {e:AY} {E n len:Nat} (hrow:e.row=some (E,n,len)) (h:e.cs.length=len*n∧ ∃ v,G.own e.id=some v∧
 ((∃ p,v= .slice p 0 0∧len=0∧G.blk e.id=none)∨
  ∃ b cap cur,v= .slice (some ⟨b,0,none⟩) len cap∧G.blk e.id=some b∧w.heap[b]? =some (.cells cur E (0,0))∧len≤cap∧cap≤maxLen∧cur.size=cap*n∧AE w G e.cs b 0)):Ck w G e:=by
 unfold Ck;rw [hrow];exact h
theorem Og (w:World) (cur:Array Value) (T:TypeId):(w.alloc (.cells cur T)).rangeAt w.heap.size 0 cur.toList:=by
 intro j v hv
 simp only [World.cell?,EB]
 simp at hv
 simp [hv]
theorem R.box {F:Fr} {st:St} {a:Act} {w:World} {G:Bp} (h:R F st a w G) (id:AC) (T:TypeId) (cs:List C) (cur:Array Value) (hr:AG w G cs cur.toList) (pu:Bool) (hp:pu=true→AJ cs=true):
 R F (st.new ⟨id,none,cs,pu⟩) a (w.alloc (.cells cur T)) (Ep F G id (some w.heap.size) none):=by
 have hsame:=V1 w (.cells cur T)
 refine h.set ⟨id,none,cs,pu⟩ (some w.heap.size) none (TP _ _) hsame.size (fun b hb _=>hsame.block b hb) (fun b hb _=>hsame.block b (Nat.lt_of_lt_of_le hb h.hsize)) ?_ hp ?_
 ·intro b hb;injection hb with hb;subst hb;exact⟨.inl (Nat.le_refl _),by simp [EB]⟩
 ·refine pM (AY.kill_row _ _) ⟨w.heap.size,T,cur,by simp [Ep,AY.kill_id],by simp [EB],by rw [PS];simpa using hr.length.symm,?_⟩
  exact AE.of_list (Jd h (h.keeps id _ _ hsame.size (fun b hb _=>hsame.block b hb) (fun b hb=> .inl (by injection hb with hb;omega))) hp hr) (Og w cur T)
theorem R.row {F:Fr} {st:St} {a:Act} {w:World} {G:Bp} (h:R F st a w G) (id:AC) (T n len cap:Nat) (cs:List C) (cur:Array Value) (vs:List Value) (hr:AG w G cs vs) (hp:cur.toList.take vs.length=vs)
 (hl:cs.length=len*n) (hc:cur.size=cap*n) (hlc:len≤cap) (hm:cap≤maxLen) (pu:Bool) (hp':pu=true→AJ cs=true):
 R F (st.new ⟨id,some (T,n,len),cs,pu⟩) a (w.alloc (.cells cur T)) (Ep F G id (some w.heap.size) (some (.slice (some ⟨w.heap.size,0,none⟩) len cap))):=by
 have hsame:=V1 w (.cells cur T)
 refine h.set ⟨id,some (T,n,len),cs,pu⟩ (some w.heap.size) _ (TP _ _) hsame.size (fun b hb _=>hsame.block b hb) (fun b hb _=>hsame.block b (Nat.lt_of_lt_of_le hb h.hsize)) ?_ hp' ?_
 ·intro b hb;injection hb with hb;subst hb;exact⟨.inl (Nat.le_refl _),by simp [EB]⟩
 ·refine V2 (AY.kill_row _ _) ⟨by rw [PS];exact hl,_,by simp only [Ep,AY.kill_id,if_true], .inr ⟨w.heap.size,cap,cur,rfl,by simp [Ep,AY.kill_id],by simp [EB],hlc,hm,hc,?_⟩⟩
  refine AE.of_list (Jd h (h.keeps id _ _ hsame.size (fun b hb _=>hsame.block b hb) (fun b hb=> .inl (by injection hb with hb;omega))) hp' hr) ?_
  intro j v hv
  refine Og w cur T j v ?_
  rw [←hp,List.getElem?_take]at hv
  split at hv
  ·exact hv
  ·cases hv
theorem R.clipRow {F:Fr} {st:St} {a:Act} {w:World} {G:Bp} (h:R F st a w G) (id:AC) (T n:Nat) (p:Option Addr):
 R F (st.new ⟨id,some (T,n,0),[],true⟩) a w (Ep F G id none (some (.slice p 0 0))):=by
 refine h.set ⟨id,some (T,n,0),[],true⟩ none _ ⟨rfl,rfl,rfl⟩ (Nat.le_refl _) (fun _ _ _=>rfl) (fun _ _ _=>rfl) (fun b hb=>by cases hb) (fun _=>rfl) ?_
 simp only [Ck,AY.kill]
 exact⟨by simp, .slice p 0 0,by simp [Ep], .inl ⟨p,rfl,trivial,by simp [Ep]⟩⟩
theorem R.nilRow {F:Fr} {st:St} {a:Act} {w:World} {G:Bp} (h:R F st a w G) (id:AC) (T n:Nat):
 R F (st.new ⟨id,some (T,n,0),[],true⟩) a w (Ep F G id none (some (.slice none 0 0))):=h.clipRow id T n none
def V.cells:V→Option (List C)
 | .c x=>some [x]
 | .agg cs=>some cs
 | _=>none
theorem Hy {w:World} {G:Bp} {x:V} {v:Value} {cs:List C} (h:Am w G x v) (hc:x.cells=some cs):AG w G cs v.cells.toList:=by
 unfold V.cells at hc
 split at hc
 ·injection hc with hc;subst hc
  simp only [Am]at h
  have:=h.one
  have e:v.cells= #[v]:=by
   cases v<;>simp_all [Value.cells,Value.oneCell']
  rw [e]
  simpa [AG] using h
 ·injection hc with hc;subst hc
  simp only [Am]at h
  obtain⟨arr,rfl,hr⟩:=h
  simpa [Value.cells] using hr
 ·cases hc
def LV (P:Program) (t:TypeId):Option (List C):=
 match P.info? t with
 | some i=>match i.zero with
   | some z=>Ek z.cells.toList
   | none=>none
 | none=>none
theorem V3 {P:Program} {t:TypeId} {cs:List C} (h:LV P t=some cs): ∃ i z,P.info? t=some i∧i.zero=some z∧Ek z.cells.toList=some cs:=by
 unfold LV at h
 split at h
 ·rename_i i hi
  split at h
  ·rename_i z hz;exact⟨i,z,hi,hz,h⟩
  ·cases h
 ·cases h
theorem run_zeroValue' {P:Program} {t:TypeId} {i:TypeInfo} {z:Value} (hi:P.info? t=some i) (hz:i.zero=some z) (w:World):(zeroValue t).run P w= .ok z w:=by
 simp [zeroValue,typeInfo,program,Sem.run,hi,hz]
def Hz (place:Nat→Option (Nat×Nat)) (cells:List C):List (Nat×V)→Option (List C)
 | []=>some cells
 | (i,v)::rest=>match place i,v.cells with
   | some (off,size),some cs=>if cs.length=size∧off+size≤cells.length then Hz place (cells.take off++cs++cells.drop (off+size)) rest else none
   | _,_=>none
def PT (w:World) (G:Bp):List (Nat×V)→List (Nat×Value)→Prop
 | [],[]=>True
 | (i,x)::xs,(j,v)::vs=>i=j∧Am w G x v∧PT w G xs vs
 | _,_=>False
theorem nP (vs:List Value) (off:Nat): ∀ (k:Nat) (cs:Array Value),off+k+vs.length≤cs.size→
 ((vs.zipIdx k).foldl (fun cs (c,j)=>cs.setIfInBounds (off+j) c) cs).toList =cs.toList.take (off+k)++vs++cs.toList.drop (off+k+vs.length):=by
 induction vs with
 | nil=>intro k cs _;simp
 | cons v vs ih=>
   intro k cs hk
   simp only [List.zipIdx_cons,List.foldl_cons]
   simp only [List.length_cons]at hk ⊢
   rw [ih (k+1) _ (by simp;omega)]
   have hlt:off+k<cs.toList.length:=by simp;omega
   rw [Array.toList_setIfInBounds,List.set_eq_take_append_cons_drop,if_pos hlt]
   have e1:(cs.toList.take (off+k)).length =off+k:=by rw [List.length_take];omega
   rw [List.take_append,List.drop_append,e1]
   rw [show off+(k+1) - (off+k)=1 by omega,show off+(k+1)+vs.length - (off+k)=vs.length+1 by omega]
   rw [List.take_take,show min (off+(k+1)) (off+k)=off+k by omega]
   have e3:List.drop (off+(k+1)+vs.length) (List.take (off+k) cs.toList)=[]:=List.drop_of_length_le (by rw [e1];omega)
   rw [e3]
   simp only [List.take_succ_cons,List.take_zero,List.drop_succ_cons,List.drop_drop,List.nil_append,List.append_assoc,List.cons_append]
   rw [show off+k+1+vs.length=off+k+(vs.length+1) by omega]
theorem OW {w:World} {G:Bp} {place:Nat→Option (Nat×Nat)}: ∀ {ps:List (Nat×V)} {qs:List (Nat×Value)} {cells out:List C} {arr:Array Value},
 Hz place cells ps=some out→PT w G ps qs→AG w G cells arr.toList→ ∃ arr',Instr.fill place arr qs=some arr'∧AG w G out arr'.toList
 | [],[],cells,out,arr,h,_,hr=>by
   simp only [Hz,Option.some.injEq]at h;subst h
   exact⟨arr,rfl,hr⟩
 | [],_::_,_,_,_,_,h,_=>by simp [PT]at h
 | _::_,[],_,_,_,_,h,_=>by simp [PT]at h
 | (i,x)::ps,(j,v)::qs,cells,out,arr,h,hp,hr=>by
   simp only [PT]at hp
   obtain⟨rfl,hv,hp⟩:=hp
   simp only [Hz]at h
   split at h
   ·rename_i off size cs hpl hcs
    split at h
    ·rename_i hb
     have hvc:=Hy hv hcs
     have hl:=hr.length
     have hlv:=hvc.length
     have e:=nP v.cells.toList off 0 arr (by simp at hl hlv ⊢;omega)
     simp only [Instr.fill,hpl]
     rw [if_neg (by simp at hl hlv ⊢;omega)]
     refine OW h hp ?_
     rw [←Array.foldl_toList,Array.toList_zipIdx,e]
     simp only [Nat.add_zero]
     have:v.cells.toList.length=size:=by rw [←hlv];exact hb.1
     rw [this]
     exact((hr.take off).append hvc).append (hr.drop (off+size))
    ·cases h
   ·cases h
end Go.PL
namespace Go.PL
open Go Go.RowKit
theorem CN {w:World} {b:Nat} {cur:Array Value} {T:TypeId} {fr:Nat×Nat} (h:w.heap[b]? =some (.cells cur T fr)) {us rest:List Value} (e:us++rest=cur.toList):w.rangeAt b 0 us:=by
 intro j v hv
 have h2:cur.toList[j]? =some v:=by
  rw [←e,List.getElem?_append_left]
  ·exact hv
  ·exact(List.getElem?_eq_some_iff.1 hv).1
 simp only [World.cell?,h]
 simpa using h2
theorem FX {w:World} {b:Nat} {cur:Array Value} {T:TypeId} {fr:Nat×Nat} (h:w.heap[b]? =some (.cells cur T fr)) {us:List Value} (hr:w.rangeAt b 0 us):us++cur.toList.drop us.length=cur.toList:=by
 have:us=cur.toList.take us.length:=by
  apply List.ext_getElem?
  intro j
  by_cases hj:j<us.length
  ·have:=hr j us[j] (by simp [hj])
   simp only [World.cell?,h,Nat.zero_add]at this
   rw [List.getElem?_take,if_pos hj]
   have h3:cur.toList[j]? =some us[j]:=by simpa using this
   rw [h3];simp [hj]
  ·rw [List.getElem?_eq_none (by omega),List.getElem?_take,if_neg hj]
 conv=>lhs;lhs;rw [this]
 rw [List.take_append_drop]
def St.setCs (st:St) (id:AC) (cs:List C) (q:Bool):St:={st with so:=st.so.map fun e=>if e.id==id then⟨e.id,e.row,cs,e.pu&&q⟩else e}
theorem R.stored {F:Fr} {st:St} {a:Act} {w:World} {G:Bp} (h:R F st a w G) {id:AC} {e:AY} (he:st.look id=some e) {b:Nat} (hb:G.blk id=some b) {off:Nat} {xs:List C} {vs:List Value}
 (hx:AG w G xs vs) (hoff:off+xs.length≤e.cs.length):
 ∃ cur T,w.heap[b]? =some (.cells cur T (0,0))∧off+vs.length≤cur.size∧
   R F (st.setCs id (e.cs.take off++xs++e.cs.drop (off+xs.length)) (AJ xs)) a (w.setRow b (cur.toList.take off++vs++cur.toList.drop (off+vs.length)).toArray) G:=by
 obtain⟨hm,hid⟩:=Ct he
 obtain⟨cur,T,hheap,hle,hrow⟩:=(h.store e hm).row (Vw he) (by rw [hid];exact hb)
 obtain⟨us,h1,h2⟩:=hrow.list
 have hlx:=hx.length
 have hlu:=h1.length
 have hpre:=FX hheap h2
 refine⟨cur,T,hheap,by omega,?_⟩
 have hbl: ∀ k,k ≠ b→(w.setRow b (cur.toList.take off++vs++cur.toList.drop (off+vs.length)).toArray).heap[k]? =w.heap[k]? :=fun k hk=>setRow_other w b k _ hk
 have hnew:=setRow_heap w b cur (cur.toList.take off++vs++cur.toList.drop (off+vs.length)).toArray T (0,0) hheap
 have hk:Fv G G w (w.setRow b (cur.toList.take off++vs++cur.toList.drop (off+vs.length)).toArray):=
  ⟨by simp,fun k _ hw=>hbl k (fun q=>hw ((h.wr k).2 (.inr ⟨id,by rw [q];exact hb⟩))),fun _ _ q=>q,fun i k h1 _=>by
   by_cases hkb:k=b
   ·subst hkb
    intro cur' T' fz' hq
    rw [hheap]at hq
    injection hq with hq
    injection hq with _ hq _
    subst hq
    exact⟨_,_,hnew⟩
   ·exact DG.same (hbl k hkb)⟩
 have hsplit:(us.take off++vs++us.drop (off+vs.length))++cur.toList.drop us.length=(cur.toList.take off++vs++cur.toList.drop (off+vs.length)).toArray.toList :=by
  conv=>rhs;rw [←hpre]
  simp only [List.append_assoc]
  rw [List.take_append_of_le_length (by omega),List.drop_append_of_le_length (by omega)]
 have hrange:=CN hnew hsplit
 have hl2:AG w G (e.cs.take off++xs++e.cs.drop (off+xs.length)) (us.take off++vs++us.drop (off+vs.length)):=by
  rw [hlx]
  exact((h1.take off).append hx).append (h1.drop _)
 have hrow':=AE.of_list (AG.mono hk _ _ (fun _ _=>⟨rfl,rfl⟩) hl2) hrange
 have hlen:(e.cs.take off++xs++e.cs.drop (off+xs.length)).length =e.cs.length:=by simp;omega
 have hcur:(cur.toList.take off++vs++cur.toList.drop (off+vs.length)).toArray.size =cur.size:=by simp;omega
 exact {
  dfr:=h.dfr,size:=h.size
  slots:=fun i=>Am.mono hk _ _ (fun _ _=>⟨rfl,rfl⟩) (h.slots i)
  ghosts:=AO.mono hk _ _ (fun _ _=>⟨rfl,rfl⟩) h.ghosts
  store:=by
   intro e' he'
   simp only [St.setCs,List.mem_map]at he'
   obtain⟨d,hd,rfl⟩:=he'
   split
   ·rename_i hdid
    replace hdid:d.id=id:=by simpa using hdid
    have:d=e:=by
     have hn:=h.nodup
     have:=List.pairwise_map.1 hn
     rcases List.mem_iff_getElem.1 hd with ⟨i,hi,rfl⟩
     rcases List.mem_iff_getElem.1 hm with ⟨j,hj,rfl⟩
     rcases Nat.lt_trichotomy i j with q | q | q
     ·exact absurd (hdid.trans hid.symm) (List.pairwise_iff_getElem.1 this i j hi hj q)
     ·subst q;rfl
     ·exact absurd (hid.trans hdid.symm) (List.pairwise_iff_getElem.1 this j i hj hi q)
    subst this
    have hE:=h.store d hd
    unfold Ck at hE ⊢
    simp only
    split at hE
    ·rename_i hrn
     obtain⟨b',q1,hbx⟩:=hE
     obtain⟨T',cur',q2,q3,q4⟩:=hbx.cells (Vw he hrn)
     rw [hid,hb]at q1;injection q1 with q1;subst q1
     rw [hheap]at q2;injection q2 with q2;injection q2 with q2a q2b;subst q2a q2b
     exact⟨b,by rw [hid];exact hb, .inr ⟨T,_,hnew,by rw [hcur,hlen];exact q3,hrow'⟩⟩
    ·obtain⟨hl,v,q1,q2⟩:=hE
     refine⟨by rw [hlen];exact hl,v,q1,?_⟩
     rcases q2 with q2 | ⟨b',cap,cur',e1,e2,e3,e4,e5,e6,e7⟩
     ·obtain⟨_,_,_,q3⟩:=q2;rw [hid,hb]at q3;cases q3
     ·rw [hid,hb]at e2;injection e2 with e2;subst e2
      rw [hheap]at e3;injection e3 with e3;injection e3 with e3a e3b;subst e3a e3b
      exact .inr ⟨b,cap,_,e1,by rw [hid];exact hb,hnew,e4,e5,by rw [hcur];exact e6,hrow'⟩
   ·rename_i hdid
    replace hdid: ¬d.id=id:=by simpa using hdid
    exact Ds hk (fun _ _=>⟨rfl,rfl⟩) ⟨rfl,rfl⟩ (fun k hk'=>hbl k (fun q=>hdid (h.inj _ _ k hk' (by rw [q];exact hb)))) (h.store d hd)
  deep:=by
   intro e' he'
   simp only [St.setCs,List.mem_map]at he'
   obtain⟨d,hd,rfl⟩:=he'
   split
   ·rename_i hdid
    replace hdid:d.id=id:=by simpa using hdid
    exact DA.triv (h.deep d hd).1 (by show Lo d.id=false;rw [hdid];exact PM he)
   ·rename_i hdid
    replace hdid: ¬d.id=id:=by simpa using hdid
    refine DA.mono hk ⟨rfl,rfl⟩ (fun _ _=>⟨rfl,rfl⟩) (fun k hk'=>hbl k (fun q=>hdid (h.inj _ _ k hk' (by rw [q];exact hb)))) (fun _ k b' hb'=>hbl b' (fun q=>?_)) (h.deep d hd)
    have h1:CM k d.id=id:=h.inj _ _ b' hb' (by rw [q];exact hb)
    have h2:=(h.deep e hm).1
    rw [hid, ←h1]at h2
    cases h2
  pures:=by
   intro e' he'
   simp only [St.setCs,List.mem_map]at he'
   obtain⟨d,hd,rfl⟩:=he'
   split
   ·rename_i hdid
    replace hdid:d.id=id:=by simpa using hdid
    have:d=e:=by
     have hn:=h.nodup
     have:=List.pairwise_map.1 hn
     rcases List.mem_iff_getElem.1 hd with ⟨i,hi,rfl⟩
     rcases List.mem_iff_getElem.1 hm with ⟨j,hj,rfl⟩
     rcases Nat.lt_trichotomy i j with q | q | q
     ·exact absurd (hdid.trans hid.symm) (List.pairwise_iff_getElem.1 this i j hi hj q)
     ·subst q;rfl
     ·exact absurd (hid.trans hdid.symm) (List.pairwise_iff_getElem.1 this j i hj hi q)
    subst this
    intro hq
    simp only [Bool.and_eq_true]at hq
    simp only [BN,Bool.and_eq_true]
    exact⟨⟨Kk _ (h.pures d hd hq.1),hq.2⟩,Kl _ (h.pures d hd hq.1)⟩
   ·exact h.pures d hd
  nodup:=by
   have:(st.setCs id (e.cs.take off++xs++e.cs.drop (off+xs.length)) (AJ xs)).so.map (·.id)=st.so.map (·.id):=by
    simp only [St.setCs,List.map_map]
    apply List.map_congr_left
    intro d _
    simp only [Function.comp]
    split<;>rfl
   rw [this];exact h.nodup
  inj:=h.inj
  lt:=fun i k hi=>by simpa using h.lt i k hi
  new:=h.new,wr:=h.wr,avlt:=h.avlt,inv:=h.inv,avold:=h.avold
  os:=by simpa using h.os
  tape:=by simpa using h.tape
  output:=by simpa using h.output
  hsize:=by simpa using h.hsize
  ext:=fun k hk' hold=>(hbl k (fun q=>by
   rcases h.new id b hb with q2 | q2
   ·omega
   ·exact hold (by rw [q];exact q2))).trans (h.ext k hk' hold)}
theorem LW {w:World} {G:Bp} {e:AY} {E n len:Nat} (hrow:e.row=some (E,n,len)) (h:Ck w G e):
 ∃ v vs,G.own e.id=some v∧v.oneCell'=true∧AG w G e.cs vs∧((w.ownsRow 0 E n v len vs∧v.ownBlock=G.blk e.id)∨ ∃ p,v= .slice (some p) 0 0∧len=0∧vs=[]∧G.blk e.id=none):=by
 unfold Ck at h
 rw [hrow]at h
 obtain⟨hl,v,h1,h2⟩:=h
 rcases h2 with ⟨p,rfl,h0,hb⟩ | ⟨b,cap,cur,rfl,e2,e3,e4,e5,e6,e7⟩
 ·have hcs:e.cs=[]:=by cases hc:e.cs with
   | nil=>rfl
   | cons c cs=>rw [hc,h0]at hl;simp at hl
  cases p with
  | none=>exact⟨_,[],h1,rfl,by rw [hcs];simp [AG], .inl ⟨⟨by rw [h0];simp, .inl ⟨rfl,h0⟩⟩,by rw [hb];rfl⟩⟩
  | some p=>exact⟨_,[],h1,rfl,by rw [hcs];simp [AG], .inr ⟨p,rfl,h0,rfl,hb⟩⟩
 ·obtain⟨us,q1,q2⟩:=e7.list
  have hlu:=q1.length
  have hpre:=FX e3 q2
  refine⟨_,us,h1,rfl,q1, .inl ⟨⟨by omega, .inr ⟨b,cap,cur,rfl,Nat.zero_le _,e3,e4,e5,e6,?_⟩⟩,by rw [e2];rfl⟩⟩
  rw [←hpre,List.take_append_of_le_length (by omega)]
  exact List.take_of_length_le (by omega)
theorem R.appended {F:Fr} {st:St} {a:Act} {w w':World} {G:Bp} (h:R F st a w G) {id:AC} {e:AY} (he:st.look id=some e) {E n len m:Nat}
 {v v':Value} {xs us:List Value} {cs:List C} {q:Bool} (hq:q=true→AJ cs=true) (hob:v.ownBlock=G.blk id) (h1:AG w G e.cs xs) (h2:AG w G cs us)
 (hold:w.ownsRow 0 E n v len xs) (hnew:w'.ownsRow 0 E n v' (len+m) (xs++us)) (hg:w.grownBy w' v.ownBlock) (hfr:v'.ownBlock=v.ownBlock∨ ∀ b,v'.ownBlock=some b→w.heap.size≤b):
 ∃ G',R F (st.new ⟨id,some (E,n,len+m),e.cs++cs,e.pu&&q⟩) a w' G'∧G'.own id=some v'∧v'.oneCell'=true:=by
 obtain⟨hm,hid⟩:=Ct he
 have hblk: ∀ b,b<w.heap.size→G.blk id ≠ some b→w'.heap[b]? =w.heap[b]? :=fun b hb hne=>hg.block b hb (by rw [hob];exact fun q=>hne q.symm)
 have hn: ∀ b,v'.ownBlock=some b→w.heap.size≤b∨(G.blk id=some b∧DG w w' b):=by
  intro b hb
  rcases hfr with q | q
  ·refine .inr ⟨by rw [←hob, ←q];exact hb,?_⟩
   have hb2:v.ownBlock=some b:=by rw [←q];exact hb
   intro cur T fz hc
   rcases hnew.2 with ⟨r,_⟩ | ⟨g,cap,cur',r,_,r2,_⟩
   ·rw [r]at hb;cases hb
   ·rw [r]at hb
    simp only [Value.ownBlock,Option.some.injEq]at hb
    subst hb
    rcases hold.2 with ⟨r3,_⟩ | ⟨g3,cap3,cur3,r3,_,r4,_⟩
    ·rw [r3]at hb2;cases hb2
    ·rw [r3]at hb2
     simp only [Value.ownBlock,Option.some.injEq]at hb2
     subst hb2
     rw [r4]at hc
     injection hc with hc
     injection hc with _ hc _
     subst hc
     exact⟨_,_,r2⟩
  ·exact .inl (q b hb)
 have hlt: ∀ b,v'.ownBlock=some b→b<w'.heap.size:=fun b hb=>(hnew.lt b hb).2
 have hone:v'.oneCell'=true:=by
  rcases hnew.2 with ⟨q,_⟩ | ⟨g,cap,cur,q,_⟩<;>rw [q]<;>rfl
 refine⟨Ep F G id v'.ownBlock (some v'),?_,by simp [Ep],hone⟩
 have hk:=h.keeps id v'.ownBlock (some v') hg.size hblk hn
 have hpq:(e.pu&&q)=true→AJ (e.cs++cs)=true:=fun hx=>by
  simp only [Bool.and_eq_true]at hx
  rw [BN,h.pures e hm hx.1,hq hx.2];rfl
 have hkill:=Jd (row:=some (E,n,len+m)) h hk hpq (h1.append h2)
 refine h.set ⟨id,some (E,n,len+m),e.cs++cs,e.pu&&q⟩ v'.ownBlock (some v') ⟨hg.os,hg.tape,hg.output⟩ hg.size hblk ?_ (fun b hb=>⟨hn b hb,hlt b hb⟩) hpq ?_
 ·intro b hb hold2
  refine hblk b (Nat.lt_of_lt_of_le hb h.hsize) (fun q=>?_)
  rcases h.new id b q with q2 | q2
  ·omega
  ·exact hold2 q2
 ·have hl:=h1.length
  have hl2:=h2.length
  have hln:=hnew.1
  refine V2 (AY.kill_row _ _) ⟨by rw [PS];simp at hln ⊢;omega,v',by simp [Ep,AY.kill_id],?_⟩
  rcases hnew.2 with ⟨q,h0⟩ | ⟨g,cap,cur,q,_,q2,q3,q4,q5,q6⟩
  ·exact .inl ⟨none,q,h0,by simp [Ep,q,Value.ownBlock,AY.kill_id]⟩
  ·refine .inr ⟨g,cap,cur,q,by simp [Ep,q,Value.ownBlock,AY.kill_id],q2,q3,q4,q5,?_⟩
   refine AE.of_list (vs:=xs++us) ?_ ?_
   ·exact hkill
   ·exact CN q2 (rest:=cur.toList.drop ((len+m)*n)) (by rw [←q6,List.take_append_drop])
theorem Lp {P:Program} {w:World} (t ty e:TypeId) (i:TypeInfo) (z:Value) (size bytes:Nat) (ht:P.underlying t=some (.slice e)) (hi:P.info? e=some i) (hz:i.zero=some z)
 (hsize:i.size=size) (hby:i.bytes=bytes) (hzs:z.cells.size=size) (hsz:0<size)
 (v:Value) (n:Nat) (xs:List Value) (hown:w.ownsRow 0 e size v n xs)
 (a:Addr) (m c:Nat) (news:List Value) (hl:news.length=m*size) (hnews: ∀ j u,news[j]? =some u→w.cell? (a.add j)=some u) (h1: ∀ u∈news,u.oneCell'=true)
 (h63:n+m≤maxLen) (hbytes:(n+m)*bytes≤140737488355328):
 ∃ v' w',(Builtin.append_ #[t,t] ty #[v, .slice (some a) m c]).run P w= .ok v' w'∧w'.ownsRow 0 e size v' (n+m) (xs++news)∧w.grownBy w' v.ownBlock∧
   (v'.ownBlock=v.ownBlock∨ ∀ b,v'.ownBlock=some b→w.heap.size≤b):=by
 subst hsize hby
 have hM:maxLen=9223372036854775807:=rfl
 have hlen:(xs++news).length =(n+m)*i.size:=by rw [List.length_append,hown.1,hl, ←Nat.add_mul]
 have grown: ∀ old,old<n+m→ ∀ row,
  (w.drew.alloc (.cells (xs.toArray++news.toArray++Builtin.zeroCells z.cells (grownCap w (n+m) old e - (n+m))) e)).ownsRow 0 e i.size
   (.slice (some ⟨w.heap.size,0,none⟩) (n+m) (grownCap w (n+m) old e)) (n+m) (xs++news)∧
  w.grownBy (w.drew.alloc (.cells (xs.toArray++news.toArray++Builtin.zeroCells z.cells (grownCap w (n+m) old e - (n+m))) e)) row:=by
  intro old ho row
  have hge:=grownCap_ge w (n+m) old e
  have hcm:grownCap w (n+m) old e≤maxLen:=grownCap_le_maxLen w (n+m) old e h63
  refine⟨⟨hlen, .inr ⟨w.heap.size,_,_,rfl,Nat.zero_le _,heap_alloc_new w.drew _,hge,hcm,?_,?_⟩⟩,⟨rfl,rfl,rfl,by simp,fun k hk _=>heap_alloc_old w.drew _ hk⟩⟩
  ·simp only [Array.size_append,List.size_toArray,size_zeroCells,hzs,hown.1,hl, ←Nat.add_mul]
   congr 1
   omega
  ·simp only [Array.toList_append,List.append_assoc]
   rw [←List.append_assoc, ←hlen]
   exact List.take_left
 rcases hown.2 with ⟨rfl,rfl⟩ | ⟨g,cap,cur,rfl,hbg,hg,hnc,hcm,hcs,htake⟩
 ·have hx:xs=[]:=List.eq_nil_of_length_eq_zero (by simpa using hown.1)
  subst hx
  by_cases hm:m=0
  ·subst hm
   have hn:news=[]:=List.eq_nil_of_length_eq_zero (by simpa using hl)
   subst hn
   refine⟨.slice none 0 0,w,?_,World.ownsRow_nil w 0 e i.size,⟨rfl,rfl,rfl,Nat.le_refl _,fun _ _ _=>rfl⟩, .inl rfl⟩
   simp [Builtin.append_,run_underlying ht,sizeOf,typeInfo,hi,Builtin.lenOf,Builtin.firstCells,loadCells,loadCellsFrom]
  ·have hr:=run_append_nil (P:=P) w t ty e i z ht hi hz a m c news hl hnews (by omega) (by omega) (by have hb:=hbytes;simp only [Nat.zero_add]at hb;omega)
   have hgr:=grown 0 (by omega) (Value.ownBlock (.slice none 0 0))
   simp only [Nat.zero_add,List.nil_append,Array.empty_append]at hgr ⊢
   exact⟨_,_,hr,hgr.1,hgr.2, .inr (fun b hb=>by simp [Value.ownBlock]at hb;omega)⟩
 ·by_cases hroom:n+m≤cap
  ·have hfit:n*i.size+news.length≤cur.size:=by rw [hl,hcs, ←Nat.add_mul];exact Nat.mul_le_mul_right _ hroom
   have hr:=run_append_room (P:=P) w t ty e i ht hi g n cap cur hg a m c news hl hnews h1 hroom hfit
   refine⟨_,_,hr,⟨hlen, .inr ⟨g,cap,_,rfl,hbg,setRow_heap w g cur _ e _ hg,hroom,hcm,?_,?_⟩⟩,⟨rfl,rfl,rfl,by simp,fun k _ hk=>setRow_other w g k _ (fun e=>hk (by simp [Value.ownBlock,e]))⟩, .inl rfl⟩
   ·simp only [List.size_toArray,List.length_append,List.length_take,List.length_drop,Array.length_toList]
    omega
   ·rw [htake, ←hlen]
    exact List.take_left
  ·have holds: ∀ j u,xs[j]? =some u→w.cell? ((⟨g,0,none⟩:Addr).add j)=some u:=hown.cells (g:=g) rfl
   have hr:=run_append_grow (P:=P) w t ty e i z ht hi hz ⟨g,0,none⟩ n cap xs hown.1 holds a m c news hl hnews (by omega) (by omega) (growslice_fits (by omega) hbytes)
   have hgr:=grown cap (by omega) (Value.ownBlock (.slice (some ⟨g,0,none⟩) n cap))
   exact⟨_,_,hr,hgr.1,hgr.2, .inr (fun b hb=>by simp [Value.ownBlock]at hb;omega)⟩
theorem R.appended0 {F:Fr} {st:St} {a:Act} {w:World} {G:Bp} (h:R F st a w G) {id:AC} {e:AY} {E n:Nat} {p:Addr} (pu:Bool) (hcs:e.cs=[]):
 ∃ G',R F (st.new ⟨id,some (E,n,0+0),e.cs++[],pu⟩) a w G'∧G'.own id=some (.slice (some p) 0 0):=by
 refine⟨Ep F G id none (some (.slice (some p) 0 0)),?_,by simp [Ep]⟩
 rw [hcs]
 refine h.set ⟨id,some (E,n,0+0),[]++[],pu⟩ none _ ⟨rfl,rfl,rfl⟩ (Nat.le_refl _) (fun _ _ _=>rfl) (fun _ _ _=>rfl) (fun b hb=>by cases hb) (fun _=>rfl) ?_
 refine V2 (AY.kill_row _ _) ⟨by rw [PS];simp,_,by simp only [Ep,AY.kill_id,if_true], .inl ⟨some p,rfl,rfl,by simp [Ep,AY.kill_id]⟩⟩
theorem Lq {P:Program} {w:World} (t ty e:TypeId) (i:TypeInfo) (z:Value) (size bytes:Nat) (ht:P.underlying t=some (.slice e)) (hi:P.info? e=some i) (hz:i.zero=some z)
 (hsize:i.size=size) (hby:i.bytes=bytes) (hzs:z.cells.size=size) (hsz:0<size) (p:Addr)
 (a:Addr) (m c:Nat) (news:List Value) (hl:news.length=m*size) (hnews: ∀ j u,news[j]? =some u→w.cell? (a.add j)=some u) (hm:0<m)
 (h63:m≤maxLen) (hbytes:m*bytes≤140737488355328):
 ∃ v' w',(Builtin.append_ #[t,t] ty #[.slice (some p) 0 0, .slice (some a) m c]).run P w= .ok v' w'∧w'.ownsRow 0 e size v' m news∧w.grownBy w' none∧
   ∀ b,v'.ownBlock=some b→w.heap.size≤b:=by
 subst hsize hby
 have hM:maxLen=9223372036854775807:=rfl
 have hr:=run_append_grow (P:=P) w t ty e i z ht hi hz p 0 0 [] (by simp) (fun j u hu=>by simp at hu) a m c news hl hnews (by omega) (by omega) (growslice_fits (by omega) (by simpa using hbytes))
 have hge:=grownCap_ge w (0+m) 0 e
 have hcm:grownCap w (0+m) 0 e≤maxLen:=grownCap_le_maxLen w (0+m) 0 e (by omega)
 refine⟨_,_,hr,⟨hl, .inr ⟨w.heap.size,_,_,by simp,Nat.zero_le _,heap_alloc_new w.drew _,by simpa using hge,hcm,?_,?_⟩⟩,⟨rfl,rfl,rfl,by simp,fun k hk _=>heap_alloc_old w.drew _ hk⟩,fun b hb=>by simp [Value.ownBlock]at hb;omega⟩
 ·simp only [Array.size_append,List.size_toArray,size_zeroCells,hzs,hl, ←Nat.add_mul,List.length_nil,Nat.zero_add]at hge ⊢
  congr 1
  omega
 ·simp only [Array.toList_append,List.nil_append]
  rw [←hl]
  exact List.take_left
end Go.PL
namespace Go.PL
open Go Go.RowKit
mutual
def V.pure:V→Bool
 | .c x=>x.pure
 | .agg cs=>AJ cs
 | .tup vs=>Cf vs
 | .g b v=> !b||v.pure
 | .undef =>true
def Cf:List V→Bool
 | []=>true
 | v::vs=>v.pure&&Cf vs
end
mutual
theorem Nw (id:AC): ∀ v:V,v.pure=true→v.men id=false
 | .c x,h=>by simp only [V.men];exact LS id x (by simpa only [V.pure] using h)
 | .agg cs,h=>by simp only [V.men];exact BP id cs (by simpa only [V.pure] using h)
 | .tup vs,h=>by simp only [V.men];exact V4 id vs (by simpa only [V.pure] using h)
 | .g b v,h=>by
   cases b with
   | false=>simp [V.men]
   | true=>simp only [V.pure,Bool.not_true,Bool.false_or]at h;simp [V.men,Nw id v h]
 | .undef,_=>by simp [V.men]
theorem V4 (id:AC): ∀ vs:List V,Cf vs=true→LN id vs=false
 | [],_=>by simp [LN]
 | v::vs,h=>by
   simp only [Cf,Bool.and_eq_true]at h
   simp [LN,Nw id v h.1,V4 id vs h.2]
end
def im (av:Nat→Prop):Bp:=⟨fun _=>none,fun _=>none,av⟩
theorem pN {w:World} {av:Nat→Prop} {G:Bp} (hG: ∀ b,b<w.heap.size→G.wr b→av b) {x:V} {v:Value} (hp:x.pure=true) (h:Am w (im av) x v):Am w G x v:=
 Am.mono (G:=im av) (G':=G) ⟨Nat.le_refl _,fun _ _ _=>rfl,fun b hb hw=>hG b hb hw,fun _ _ _ _=>DG.same rfl⟩ x v (fun id hid=>absurd (show x.men id=true from hid) (by rw [Nw id x hp];simp)) h
theorem mD {w:World} {av:Nat→Prop} {G:Bp} (hG: ∀ b,b<w.heap.size→av b→G.wr b) {x:V} {v:Value} (hp:x.pure=true) (h:Am w G x v):Am w (im av) x v:=
 Am.mono (G:=G) (G':=im av) ⟨Nat.le_refl _,fun _ _ _=>rfl,fun b hb hw=>hG b hb hw,fun _ _ _ _=>DG.same rfl⟩ x v (fun id hid=>absurd (show x.men id=true from hid) (by rw [Nw id x hp];simp)) h
def UX (id:AC) (len:Nat) (cs:List C):C→C
 | .osl i=>if i=id then .sl len cs else .osl i
 | .ptr i o=>if i=id then .any else .ptr i o
 | .bsl i o n=>if i=id then .any else .bsl i o n
 | .bld i T=>if i=id then .any else .bld i T
 | .mref i=>if i=id then .any else .mref i
 | .clo f ds=>if Cw id ds then .any else .clo f ds
 | .bmv f ds=>if Cw id ds then .any else .bmv f ds
 | c=>c
mutual
def RX (id:AC) (len:Nat) (cs:List C):V→V
 | .c x=> .c (UX id len cs x)
 | .agg ds=> .agg (ds.map (UX id len cs))
 | .tup vs=> .tup (Oh id len cs vs)
 | .g b v=> .g b (RX id len cs v)
 | .undef => .undef
def Oh (id:AC) (len:Nat) (cs:List C):List V→List V
 | []=>[]
 | v::vs=>RX id len cs v::Oh id len cs vs
end
def AY.frz (id:AC) (len:Nat) (cs:List C) (e:AY):AY:=match e with
 | ⟨i,r,ds,true⟩=>⟨i,r,ds,true⟩
 | ⟨i,r,ds,false⟩=>⟨i,r,ds.map (UX id len cs),false⟩
theorem AY.frz_id (id:AC) (len:Nat) (cs:List C) (e:AY):(e.frz id len cs).id =e.id:=by obtain⟨i,r,cs,_ | _⟩:=e<;>rfl
def St.freeze (st:St) (id:AC):St:=
 match st.look id with
 | some e=>match e.row with
   | some (_,_,len)=>if !e.pu then st else
    {tm:=st.tm.map (RX id len e.cs),so:=(st.so.filter (fun d=>d.id != id)).map (AY.frz id len e.cs),gh:=Oh id len e.cs st.gh,pre:=st.pre}
   | none=>st
 | none=>st
section
variable {F:Fr} {w:World} {G:Bp} {id:AC} {len:Nat} {cs:List C}
mutual
end
end
def St.okFrz (st:St) (id:AC):Bool:=
 match st.look id with
 | some e=>match e.row with
   | some _=>e.pu
   | none=>false
 | none=>false
end Go.PL
namespace Go.PL
open Go Go.RowKit
theorem TQ {w:World} {G:Bp}: ∀ {cs:List C} {vs:List Value},cs.length=vs.length→(∀ (i:Nat) (c:C) (v:Value),cs[i]? =some c→vs[i]? =some v→As w G c v)→AG w G cs vs
 | [],[],_,_=>by simp [AG]
 | [],_::_,h,_=>by simp at h
 | _::_,[],h,_=>by simp at h
 | c::cs,v::vs,h,hr=>by
   simp only [AG]
   exact⟨hr 0 c v (by simp) (by simp),TQ (by simpa using h) (fun i c' v' h1 h2=>hr (i+1) c' v' (by simpa using h1) (by simpa using h2))⟩
def Cg (z:List C) (k:Nat):List C:=(List.range (k*z.length)).map (fun i=>z.getD (i % z.length) .any)
theorem Zv {w:World} {G:Bp} {z:List C} {zv:Array Value} (h:AG w G z zv.toList) (hz:0<z.length) (k:Nat):
 AG w G (Cg z k) ((Array.range (k*zv.size)).map (zv[· % zv.size]!)).toList :=by
 have hl:z.length=zv.size:=by simpa using h.length
 refine TQ (by simp [Cg,hl]) (fun i c v h1 h2=>?_)
 simp only [Cg,List.getElem?_map]at h1
 simp only [Array.toList_map,List.getElem?_map,Array.toList_range]at h2
 by_cases hi:i<k*z.length
 ·rw [List.getElem?_range (by omega)]at h1
  rw [List.getElem?_range (by rw [←hl];omega)]at h2
  simp only [Option.map_some,Option.some.injEq]at h1 h2
  have hm:i % z.length<z.length:=Nat.mod_lt _ hz
  obtain⟨v',q1,q2⟩:=h.get (i % z.length) z[i % z.length] (by simp [hm])
  have e1:c=z[i % z.length]:=by rw [←h1];simp [List.getD_eq_getElem?_getD,hm]
  have e2:v=v':=by
   rw [←h2, ←hl]
   have:zv[i % z.length]? =some v':=by simpa using q1
   simp [Array.getElem!_eq_getD,Array.getD_eq_getD_getElem?,this]
  rw [e1,e2];exact q2
 ·rw [List.getElem?_eq_none (by simp;omega)]at h1
  cases h1
theorem ez: ∀ {v:Value} {c:C},GF v=some c→c.pure=true:=by
 intro v c h
 unfold GF at h
 split at h<;>first | (cases h;done) | (injection h with h;subst h;rfl)
theorem TR: ∀ {vs:List Value} {cs:List C},Ek vs=some cs→AJ cs=true
 | [],cs,h=>by simp [Ek]at h;subst h;rfl
 | v::vs,cs,h=>by
   unfold Ek at h
   split at h
   ·rename_i c cs' h1 h2
    injection h with h;subst h
    simp only [AJ,ez h1,TR h2,Bool.and_self]
   ·cases h
theorem eA {z:List C} (h:AJ z=true) (k:Nat):AJ (Cg z k)=true:=Nv _ (fun _=>nH _ h) _
def V5:Value→Option C
 | .slice none 0 0=>some .nils
 | v=>GF v
def GX:List Value→Option (List C)
 | []=>some []
 | v::vs=>match V5 v,GX vs with
   | some c,some cs=>some (c::cs)
   | _,_=>none
theorem eC {w:World} {G:Bp}: ∀ {v:Value} {c:C},V5 v=some c→As w G c v:=by
 intro v c h
 unfold V5 at h
 split at h
 ·injection h with h;subst h;simp [As]
 ·exact OQ h
theorem LX {w:World} {G:Bp}: ∀ {vs:List Value} {cs:List C},GX vs=some cs→AG w G cs vs
 | [],cs,h=>by simp [GX]at h;subst h;simp [AG]
 | v::vs,cs,h=>by
   unfold GX at h
   split at h
   ·rename_i c cs' h1 h2
    injection h with h;subst h
    simp only [AG]
    exact⟨eC h1,LX h2⟩
   ·cases h
def TS (P:Program) (t:TypeId):Option (List C):=
 match P.info? t with
 | some i=>match i.zero with
   | some z=>GX z.cells.toList
   | none=>none
 | none=>none
theorem V6 {P:Program} {t:TypeId} {cs:List C} (h:TS P t=some cs): ∃ i z,P.info? t=some i∧i.zero=some z∧GX z.cells.toList=some cs:=by
 unfold TS at h
 split at h
 ·rename_i i hi
  split at h
  ·rename_i z hz;exact⟨i,z,hi,hz,h⟩
  ·cases h
 ·cases h
def Gd:C→C
 | .nils => .sl 0 []
 | c=>c
def V.weak:V→V
 | .c x=> .c (Gd x)
 | .agg cs=> .agg (cs.map Gd)
 | v=>v
def TT (p:Nat×V):Nat×V:=(p.1,p.2.weak)
theorem JG {w:World} {G:Bp} {c:C} {v:Value} (h:As w G c v):As w G (Gd c) v:=by
 cases c<;>try exact h
 simp only [As]at h
 subst h
 simp only [Gd,As]
 exact⟨rfl,none,0,rfl,Nat.le_refl _,Nat.zero_le _,fun _=>trivial, .inl trivial⟩
theorem RY {w:World} {G:Bp}: ∀ {cs:List C} {vs:List Value},AG w G cs vs→AG w G (cs.map Gd) vs
 | [],[],_=>by simp [AG]
 | [],_::_,h=>by simp [AG]at h
 | _::_,[],h=>by simp [AG]at h
 | c::cs,v::vs,h=>by
   simp only [AG]at h
   simp only [List.map_cons,AG]
   exact⟨JG h.1,RY h.2⟩
theorem nQ {w:World} {G:Bp} {x:V} {v:Value} (h:Am w G x v):Am w G x.weak v:=by
 cases x with
 | c x=>simp only [V.weak,Am]at h ⊢;exact JG h
 | agg cs=>
   simp only [V.weak,Am]at h ⊢
   obtain⟨arr,e,hr⟩:=h
   exact⟨arr,e,RY hr⟩
 | tup _=>exact h
 | g _ _=>exact h
 | undef=>exact h
structure ze (P:Program) (F:Fr) (o:Oper) (a:Act) (w:World) (st':St):Prop where
 out: ∃ nx w' G',(execOp a.eval o).run P w= .ok nx w'∧((∃ v,nx= .value v∧R F st' (a.put o.dst v) w' G')∨(nx= .skip ∧R F st' (a.put o.dst Go.undef) w' G'))
def St.parts (st:St) (g:Bool) (ps:List (Nat×Operand)):Prop×List (Nat×V):=
 match ps with
 | []=>(True,[])
 | (i,x)::r=>((st.arg g x).1∧(St.parts st g r).1,(i,(st.arg g x).2)::(St.parts st g r).2)
theorem R.parts {F:Fr} {st:St} {a:Act} {w:World} {G:Bp} (h:R F st a w G) {g:Bool} (hg:g=true): ∀ {ps:List (Nat×Operand)},(st.parts g ps).1→PT w G (st.parts g ps).2 (ps.map fun(i,x)=>(i,a.eval x))
 | [],_=>by simp [St.parts,PT]
 | (i,x)::r,hs=>by
   simp only [St.parts]at hs ⊢
   simp only [List.map_cons,PT]
   exact⟨trivial,h.arg hg hs.1,h.parts hg hs.2⟩
def xa (P:Program) (t:TypeId) (i:Nat):Option (Nat×Nat):=
 match P.underlying t with
 | some (.array _ e)=>match P.info? e with
   | some inf=>some (i*inf.size,inf.size)
   | none=>none
 | some (.struct fs)=>match fs.toList.mapM (fun f=>(P.info? f.type).map fun i=>(f.offset,i.size))with
   | some ps=>ps[i]?
   | none=>none
 | _=>none
def Oi (P:Program) (t:TypeId):Bool:=
 match P.underlying t with
 | some (.array _ e)=>(P.info? e).isSome
 | some (.struct fs)=>(fs.toList.mapM (fun f=>(P.info? f.type).map fun i=>(f.offset,i.size))).isSome
 | _=>false
def LY (P:Program) (st:St) (g:Bool) (t:TypeId) (ps:List (Nat×Operand)):Prop×V:=
 match TS P t with
 | some z=>match Hz (xa P t) z (st.parts g ps).2 with
   | some cs=>((st.parts g ps).1∧Oi P t=true, .agg cs)
   | none=>no
 | none=>no
def PU (st:St) (n:Nat):V→Option (Nat×List C×Bool)
 | .c (.sl m cs)=>if cs.length=m*n then some (m,cs,true)else none
 | .c (.osl id)=>match st.look id with
   | some e=>match e.row with
     | some (_,n',m)=>if n'=n then some (m,e.cs,e.pu)else none
     | none=>none
   | none=>none
 | _=>none
def EC (P:Program) (t:TypeId):Option (TypeId×Nat×Nat):=
 match P.underlying t with
 | some (.slice e)=>match P.info? e with
   | some i=>match i.zero with
     | some z=>if z.cells.size=i.size then some (e,i.size,i.bytes)else none
     | none=>none
   | none=>none
 | _=>none
def FB (P:Program) (st:St) (T:TypeId) (x y:V):Prop×St:=
 match x,y.cells,Oe P T with
 | .c (.ptr id off),some cs,some (_,n)=>match st.look id with
   | some e=>(cs.length=n∧off+n≤e.cs.length,st.setCs id (e.cs.take off++cs++e.cs.drop (off+cs.length)) (AJ cs))
   | none=>(False,st)
 | _,_,_=>(False,st)
def EU (P:Program) (st:St) (d:Nat) (t:TypeId) (s x:V):Prop×St:=
 match s,EC P t with
 | .c (.osl id),some (E,n,by')=>match st.look id,PU st n x with
   | some e,some (m,cs,q)=>match e.row with
     | some (E',n',len)=>(E'=E∧n'=n∧0<n∧(len+m)*by'≤140737488355328∧len+m≤maxLen,(st.new ⟨id,some (E,n,len+m),e.cs++cs,e.pu&&q⟩).put (some d) (.c (.osl id)))
     | none=>(False,st)
   | _,_=>(False,st)
 | _,_=>(False,st)
def TU (P:Program) (st:St) (d:Nat) (t:TypeId) (x y:V):Prop×St:=
 match x,y,Em P t with
 | .c (.bsl id off len), .c (.bsl id2 off2 len2),some (_,1)=>match st.look id,st.look id2 with
   | some e,some e2=>(off+Nat.min len2 len≤e.cs.length∧off2+Nat.min len2 len≤e2.cs.length,
    (st.setCs id (e.cs.take off++(e2.cs.drop off2).take (Nat.min len2 len)++e.cs.drop (off+((e2.cs.drop off2).take (Nat.min len2 len)).length)) (AJ ((e2.cs.drop off2).take (Nat.min len2 len)))).put (some d) (.c (.int .i64 (Nat.min len2 len:Nat))))
   | _,_=>(False,st)
 | _,_,_=>(False,st)
def LZ (P:Program) (st:St) (d:Nat) (t:TypeId) (l c:V):Prop×St:=
 match l,c,EC P t with
 | .c (.int _ l), .c (.int _ c),some (E,n,by')=>match LV P E with
   | some z=>(0≤l∧l≤c∧c*by'≤140737488355328∧c≤maxLen∧z.length=n∧0<n,(st.new ⟨d::st.pre,some (E,n,l.toNat),Cg z l.toNat,true⟩).put (some d) (.c (.osl (d::st.pre))))
   | none=>(False,st)
 | _,_,_=>(False,st)
def B1 (P:Program) (st:St) (d:Nat) (t:TypeId) (len:Nat) (ps:List (Nat×Operand)):Prop×St:=
 match EC P t with
 | some (E,n,_)=>match LV P E with
   | some z=>match Hz (fun i=>some (i*n,n)) (Cg z len) ((st.parts true ps).2.map TT)with
     | some cs=>((st.parts true ps).1∧z.length=n∧0<n∧len*n≤2 ^ 24,(st.new ⟨d::st.pre,some (E,n,len),cs,AJ cs⟩).put (some d) (.c (.osl (d::st.pre))))
     | none=>(False,st)
   | none=>(False,st)
 | none=>(False,st)
def jp:Operand→V→V
 | .const (.slice none 0 0),_=> .c .nils
 | _,v=>v
def UY (st:St) (x v:V):V:=
 match v with
 | .c .nils =>match x with
   | .c (.ptr id _)=>match st.look id with
     | some e=>match e.row with
       | some _=> .c (.sl 0 [])
       | none=>v
     | none=>v
   | _=>v
 | _=>v
theorem eD {w:World} {G:Bp} {st:St} {x v:V} {u:Value} (h:Am w G v u):Am w G (UY st x v) u:=by
 unfold UY
 split
 ·have h2:Am w G (.c (.sl 0 [])) u:=by
   simp only [Am]at h ⊢
   exact JG h
  split
  ·split
   ·split
    ·exact h2
    ·exact h
   ·exact h
  ·exact h
 ·exact h
theorem eE {w:World} {G:Bp} {a:Act} {y:Operand} {v:V} (h:Am w G v (a.eval y)):Am w G (jp y v) (a.eval y):=by
 unfold jp
 split
 ·simp only [Am,As];rfl
 ·exact h
def ef (P:Program) (st:St) (o:Oper):Prop×St:=
 match o.op with
 | .store T x y=>let r:=FB P st T (st.arg true x).2 (UY st (st.arg true x).2 (jp y (st.arg true y).2))
   ((st.arg true x).1∧(st.arg true y).1∧r.1,r.2.put o.dst .undef)
 | op=>match o.dst with
   | none=>(False,st)
   | some d=>match op with
     | .alloc T=>match TS P T with
       | some cs=>(True,(st.new ⟨d::st.pre,none,cs,false⟩).put (some d) (.c (.ptr (d::st.pre) 0)))
       | none=>(False,st)
     | .box T x=>match (st.arg true x).2.cells with
       | some cs=>((st.arg true x).1∧T=T,(st.new ⟨d::st.pre,none,cs,false⟩).put (some d) (.c (.ptr (d::st.pre) 0)))
       | none=>(False,st)
     | .assign (.const (.slice none 0 0))=>match Em P o.type with
       | some (E,n)=>(True,(st.new ⟨d::st.pre,some (E,n,0),[],true⟩).put (some d) (.c (.osl (d::st.pre))))
       | none=>(False,st)
     | .buildSlice t len ps=>B1 P st d t len ps.toList
     | .makeSlice t l c=>let r:=LZ P st d t (st.arg true l).2 (st.arg true c).2
       ((st.arg true l).1∧(st.arg true c).1∧r.1,r.2)
     | .call c=>match c.callee,c.args.toList,c.argTypes.toList with
       | .builtin .append,[s,x],[t,t']=>let r:=EU P st d t (st.arg true s).2 (st.arg true x).2
         ((st.arg true s).1∧(st.arg true x).1∧t=t'∧r.1,r.2)
       | .builtin .copy,[s,x],[t,t']=>let r:=TU P st d t (st.arg true s).2 (st.arg true x).2
         ((st.arg true s).1∧(st.arg true x).1∧t'=t'∧r.1,r.2)
       | _,_,_=>(False,st)
     | _=>(False,st)
theorem Zw {w:World} {G:Bp}: ∀ {xs:List (Nat×V)} {ys:List (Nat×Value)},PT w G xs ys→PT w G (xs.map TT) ys
 | [],[],h=>h
 | (i,x)::xs,(j,v)::ys,h=>by
   simp only [PT]at h
   simp only [List.map_cons,TT,PT]
   exact⟨h.1,nQ h.2.1,Zw h.2.2⟩
 | [],_::_,h=>by simp [PT]at h
 | _::_,[],h=>by simp [PT]at h
theorem bI {P:Program} {F:Fr} {st:St} {a:Act} {w:World} {G:Bp} (h:R F st a w G) {g:Bool} (hg:g=true) {t:TypeId} {ps:Array (Nat×Operand)} (hs:(LY P st g t ps.toList).1):
 ∃ v,Am w G (LY P st g t ps.toList).2 v∧ ∀ w',(Instr.build t (ps.map fun(i,x)=>(i,a.eval x))).run P w'= .ok v w':=by
 unfold LY at *
 split at hs
 ·rename_i z hz
  split at hs
  ·rename_i cs hf
   obtain⟨i,zv,hi,hzv,hc⟩:=V6 hz
   obtain⟨arr',q1,q2⟩:=OW hf (h.parts hg hs.1) (LX (w:=w) (G:=G) hc)
   refine⟨.agg arr',⟨arr',rfl,q2⟩,fun w'=>run_build w' t _ arr' ?_⟩
   have hok:=hs.2
   unfold Oi at hok
   unfold Program.built
   rw [hi]
   split at hok
   ·rename_i n e hu
    cases hie:P.info? e with
    | none=>rw [hie]at hok;cases hok
    | some ie=>
      simp only [hu,hzv,hie]
      have e1:xa P t=fun i=>some (i*ie.size,ie.size):=by
       funext i;unfold xa;rw [hu];simp [hie]
      rw [e1]at q1
      simpa using q1
   ·rename_i fs hu
    cases hm:fs.toList.mapM (fun f=>(P.info? f.type).map fun i=>(f.offset,i.size))with
    | none=>rw [hm]at hok;cases hok
    | some pl=>
      simp only [hu,hzv,hm]
      have e1:xa P t=fun i=>pl[i]? :=by
       funext i;unfold xa;rw [hu];simp [hm]
      rw [e1]at q1
      simpa using q1
   ·cases hok
  ·exact hs.elim
 ·exact hs.elim
theorem ID {P:Program} {t e:TypeId} {n by':Nat} (h:EC P t=some (e,n,by')):
 ∃ i z,P.underlying t=some (.slice e)∧P.info? e=some i∧i.zero=some z∧i.size=n∧i.bytes=by'∧z.cells.size=n:=by
 unfold EC at h
 split at h
 ·rename_i e' hu
  split at h
  ·rename_i i hi
   split at h
   ·rename_i z hz
    split at h
    ·rename_i hsz
     simp only [Option.some.injEq,Prod.mk.injEq]at h
     obtain⟨rfl,rfl,rfl⟩:=h
     exact⟨i,z,hu,hi,hz,rfl,rfl,hsz⟩
    ·cases h
   ·cases h
  ·cases h
 ·cases h
theorem PV {P:Program} {F:Fr} {st:St} {a:Act} {w:World} {G:Bp} (h:R F st a w G) {T:TypeId} {x y:V} {u v:Value} (hx:Am w G x u) (hy:Am w G y v) (hs:(FB P st T x y).1):
 ∃ w',(Instr.storeAt T u v).run P w= .ok () w'∧R F (FB P st T x y).2 a w' G:=by
 unfold FB at *
 split at hs
 ·rename_i id off cs ag n hc ht
  split at hs
  ·rename_i e he
   obtain⟨h1,h2⟩:=hs
   obtain⟨d,i,hu,hd,hi,hsz⟩:=En ht
   simp only [Am,As]at hx
   obtain⟨b,hb,rfl⟩:=hx
   have hv:=Hy hy hc
   have hlv:=hv.length
   obtain⟨cur,T',hheap,hfit,hR⟩:=h.stored he hb (off:=off) (xs:=cs) hv (by omega)
   refine⟨_,?_,hR⟩
   have hst:=run_storeCells_at P b off T' v.cells.toList 0 cur w hheap (by simpa using hfit) (AG.one hv)
   simp only [Nat.add_zero]at hst
   have hne: ¬v.cells.size ≠ i.size:=by simp at hlv ⊢;omega
   simp [Instr.storeAt,Instr.sureAddr,storeVar,sizeOf,typeInfo,program,Sem.run,hi,Sem.run_bind,hst]
   simp at hlv
   omega
  ·exact hs.elim
 ·exact hs.elim
theorem eF {F:Fr} {st:St} {a:Act} {w:World} {G:Bp} (h:R F st a w G) {n m:Nat} {x:V} {cs:List C} {q:Bool} {u:Value} (hs:PU st n x=some (m,cs,q)) (hx:Am w G x u):
 (q=true→AJ cs=true)∧ ∃ ad cap vs,u= .slice ad m cap∧AG w G cs vs∧vs.length=m*n∧(ad=none→m=0)∧ ∀ b,ad=some b→ ∀ j v,vs[j]? =some v→w.cell? (b.add j)=some v:=by
 unfold PU at hs
 split at hs
 ·split at hs
  ·rename_i hl
   simp only [Option.some.injEq,Prod.mk.injEq]at hs
   obtain⟨rfl,rfl,rfl⟩:=hs
   simp only [Am,As]at hx
   refine⟨fun _=>hx.1,?_⟩
   obtain⟨_,ad,cap,rfl,_,_,h0,h1 | ⟨b,o,rfl,_,_,hr⟩⟩:=hx
   ·have:=h0 h1;subst this
    exact⟨ad,cap,[],rfl,by simp [AG],by rw [h1];simp,fun _=>h1,fun b _ j v hv=>by simp at hv⟩
   ·obtain⟨vs,q1,q2⟩:=hr.list
    have:=q1.length
    exact⟨_,cap,vs,rfl,q1,by omega,(by simp),fun b' hb' j v hv=>by injection hb' with hb';subst hb';rw [Addr.add_mid];exact q2 j v hv⟩
  ·cases hs
 ·split at hs
  ·rename_i e hlk
   split at hs
   ·rename_i E n' m' hrow
    split at hs
    ·rename_i hn
     simp only [Option.some.injEq,Prod.mk.injEq]at hs
     obtain⟨rfl,rfl,rfl⟩:=hs
     obtain⟨hm,hid⟩:=Ct hlk
     refine⟨h.pures e hm,?_⟩
     have hE:=h.store e hm
     obtain⟨v,vs,k1,k2,k3,k4⟩:=LW hrow hE
     simp only [Am,As]at hx
     rw [hid]at k1
     rw [k1]at hx
     obtain⟨hx,_⟩:=hx
     injection hx with hx;subst hx
     rcases k4 with ⟨k4,k5⟩ | ⟨p,rfl,q0,rfl,_⟩
     rotate_left
     ·exact⟨_,_,[],by rw [q0],k3,by rw [q0];simp,(by simp),fun b _ j v hv=>by simp at hv⟩
     rcases k4.2 with ⟨q,q0⟩ | ⟨g,cap,cur,q,_⟩
     ·have:vs=[]:=by
       have:=k4.1;rw [q0]at this;simpa using this
      subst this
      exact⟨none,0,[],by rw [q,q0],k3,by rw [q0];simp,fun _=>q0,fun b hb=>by cases hb⟩
     ·refine⟨_,cap,vs,q,k3,by rw [k4.1,hn],(by simp),fun b hb j v hv=>?_⟩
      injection hb with hb;subst hb
      exact k4.cells (by rw [q];rfl) j v hv
    ·cases hs
   ·cases hs
  ·cases hs
 ·cases hs
theorem Yt {P:Program} {F:Fr} {st:St} {a:Act} {w:World} {G:Bp} (h:R F st a w G) {d:Nat} {t ty:TypeId} {s x:V} {u v:Value} (hx:Am w G s u) (hy:Am w G x v) (hs:(EU P st d t s x).1):
 ∃ r w' G',(Builtin.append_ #[t,t] ty #[u,v]).run P w= .ok r w'∧R F (EU P st d t s x).2 (a.put (some d) r) w' G':=by
 unfold EU at *
 split at hs
 ·rename_i id E n by' hsel
  split at hs
  ·rename_i e m cs q hlk hsrc
   split at hs
   ·rename_i E' n' len hrow
    obtain⟨rfl,rfl,hn0,hbytes,hmax⟩:=hs
    obtain⟨i,z,hu,hi,hz,hsz,hby,hzs⟩:=ID hsel
    obtain⟨hm,hid⟩:=Ct hlk
    obtain⟨u',xs,k1,k2,k3,k4⟩:=LW hrow (h.store e hm)
    simp only [Am,As]at hx
    rw [hid]at k1
    rw [k1]at hx
    obtain⟨hx,_⟩:=hx
    injection hx with hx;subst hx
    obtain⟨hqp,ad,cap,us,rfl,q1,q2,q3,q4⟩:=eF h hsrc hy
    rcases k4 with ⟨k4,k5⟩ | ⟨p,rfl,rfl,rfl,k5⟩
    rotate_left
    ·rw [hid]at k5
     have hcs:e.cs=[]:=List.length_eq_zero_iff.1 (by simpa using k3.length)
     by_cases hm0:m=0
     ·subst hm0
      have hus:us=[]:=by simpa using q2
      subst hus
      have hc0:cs=[]:=List.length_eq_zero_iff.1 (by simpa using q1.length)
      subst hc0
      have hrun:(Builtin.append_ #[t,t] ty #[.slice (some p) 0 0, .slice ad 0 cap]).run P w= .ok (.slice (some p) 0 0) w:=by
       cases ad<;>simp [Builtin.append_,run_underlying hu,sizeOf,typeInfo,program,Sem.run,hi,Builtin.lenOf,Builtin.firstCells,storeCells,loadCells,loadCellsFrom]
      obtain⟨G',g1,g2⟩:=h.appended0 (id:=id) (e:=e) (E:=E') (n:=n') (p:=p) (e.pu&&q) hcs
      refine⟨_,w,G',hrun,?_⟩
      exact R.put (d:=some d) g1 (show Am w G' (V.c (C.osl id)) (.slice (some p) 0 0) by simp only [Am,As];exact⟨g2,rfl⟩)
     ·obtain⟨b,rfl⟩: ∃ b,ad=some b:=by
       cases ad with
       | none=>exact absurd (q3 rfl) hm0
       | some b=>exact⟨b,rfl⟩
      obtain⟨r,w',hrun,hown,hg,hfr⟩:=Lq (P:=P) (w:=w) t ty E' i z n' by' hu hi hz hsz hby hzs hn0 p b m cap us q2 (q4 b rfl) (by omega) (by omega) (by simpa using hbytes)
      obtain⟨G',g1,g2,g3⟩:=h.appended (len:=0) (v:= .slice none 0 0) (xs:=[]) hlk hqp k5.symm k3 q1 ⟨by simp, .inl ⟨rfl,rfl⟩⟩ (by simpa using hown) hg (.inr hfr)
      refine⟨r,w',G',hrun,?_⟩
      exact R.put (d:=some d) g1 (show Am w' G' (V.c (C.osl id)) r by simp only [Am,As];exact⟨g2,g3⟩)
    rw [hid]at k5
    have main: ∀ r w',(Builtin.append_ #[t,t] ty #[u', .slice ad m cap]).run P w= .ok r w'→w'.ownsRow 0 E' n' r (len+m) (xs++us)→w.grownBy w' u'.ownBlock→(r.ownBlock=u'.ownBlock∨ ∀ b,r.ownBlock=some b→w.heap.size≤b)→
     ∃ r w' G',(Builtin.append_ #[t,t] ty #[u', .slice ad m cap]).run P w= .ok r w'∧R F ((st.new ⟨id,some (E',n',len+m),e.cs++cs,e.pu&&q⟩).put (some d) (.c (.osl id))) (a.put (some d) r) w' G':=by
     intro r w' hrun hown hg hfr
     obtain⟨G',g1,g2,g3⟩:=h.appended hlk hqp k5 k3 q1 k4 hown hg hfr
     exact⟨r,w',G',hrun,g1.put (by simp only [Am,As];exact⟨g2,g3⟩)⟩
    cases ad with
    | some b=>
      obtain⟨r,w',hrun,hown,hg,hfr⟩:=Lp (P:=P) (w:=w) t ty E' i z n' by' hu hi hz hsz hby hzs hn0 u' len xs k4 b m cap us q2 (q4 b rfl) (AG.one q1) hmax hbytes
      exact main r w' hrun hown hg hfr
    | none=>
      have hm0:=q3 rfl
      subst hm0
      have hus:us=[]:=by simpa using q2
      subst hus
      refine main u' w ?_ (by simpa using k4) ⟨rfl,rfl,rfl,Nat.le_refl _,fun _ _ _=>rfl⟩ (.inl rfl)
      have hcap: ∃ bs c,u'= .slice bs len c∧len≤c∧(∀ b,bs=some b→b.spot=none):=by
       rcases k4.2 with ⟨q,q0⟩ | ⟨g,c,cur,q,_,_,q5,_⟩
       ·exact⟨none,0,by rw [q,q0],by omega,by simp⟩
       ·exact⟨_,c,q,q5,by intro b hb;injection hb with hb;subst hb;rfl⟩
      obtain⟨bs,c,rfl,hc,_⟩:=hcap
      cases bs<;>simp [Builtin.append_,run_underlying hu,sizeOf,typeInfo,program,Sem.run,hi,Builtin.lenOf,Builtin.firstCells,hc,storeCells]
   ·exact hs.elim
  ·exact hs.elim
 ·exact hs.elim
theorem eG {P:Program} {F:Fr} {st:St} {a:Act} {w:World} {G:Bp} (h:R F st a w G) {d:Nat} {t t' ty:TypeId} {x y:V} {u v:Value} (hx:Am w G x u) (hy:Am w G y v) (hs:(TU P st d t x y).1):
 ∃ r w' G',(Builtin.copy_ #[t,t'] ty #[u,v]).run P w= .ok r w'∧R F (TU P st d t x y).2 (a.put (some d) r) w' G':=by
 unfold TU at *
 split at hs
 ·rename_i id off len id2 off2 len2 E hsel
  split at hs
  ·rename_i e e2 he he2
   obtain⟨q1,q2⟩:=hs
   obtain⟨hu,inf,hi,hsz⟩:=OR hsel
   simp only [Am,As]at hx hy
   obtain⟨b,cap,hb,rfl,_⟩:=hx
   obtain⟨b2,cap2,hb2,rfl,_⟩:=hy
   obtain⟨hm2,hid2⟩:=Ct he2
   obtain⟨cur2,T2,_,_,hrow2⟩:=(h.store e2 hm2).row (Vw he2) (by rw [hid2];exact hb2)
   obtain⟨vs,k1,k2⟩:=((hrow2.drop off2).take (Nat.min len2 len)).list
   have hlx:=k1.length
   have hl:((e2.cs.drop off2).take (Nat.min len2 len)).length =Nat.min len2 len:=by
    rw [List.length_take,List.length_drop];exact Nat.min_eq_left (by omega)
   obtain⟨cur,T',hheap,hfit,hR⟩:=h.stored he hb (off:=off) k1 (by rw [hl];exact q1)
   have hrun:=run_copy_row (P:=P) w t t' ty E b off len cap ⟨b2,off2,none⟩ len2 cap2 cur T' vs hu (by rw [hi];simp [hsz]) hheap (by omega) (fun j v hv=>by
    have:=k2 j v hv
    rw [Addr.add_mid]
    simpa using this) hfit (AG.one k1)
   refine⟨_,_,G,hrun,hR.put (d:=some d) ?_⟩
   simp only [Am,As,goInt]
   rw [←hlx,hl]
  ·exact hs.elim
 ·exact hs.elim
theorem bJ {F:Fr} {w:World} {G:Bp} {id:AC} {b:Option Nat} {v:Value} (h:v.oneCell'=true):Am w (Ep F G id b (some v)) (.c (.osl id)) v:=by
 simp [Am,As,Ep,h]
theorem run_buildSlice' {P:Program} {w:World} {t E:TypeId} {i:TypeInfo} {zv:Value} {n len:Nat} {ps:Array (Nat×Value)} {arr':Array Value} (hu:P.underlying t=some (.slice E)) (hi:P.info? E=some i) (hz:i.zero=some zv)
 (hsz:i.size=n) (h3:0<n) (h4:len*n≤2 ^ 24) (hf:Instr.fill (fun i=>some (i*n,n)) ((Array.range (len*n)).map (zv.cells[· % zv.cells.size]!)) ps.toList=some arr'):
 (Instr.buildSlice t len ps).run P w= .ok (.slice (some ⟨w.heap.size,0,none⟩) len len) (w.alloc (.cells arr' E)):=by
 have hbig: ¬2 ^ 24<len*n:=by omega
 by_cases h0:len=0
 ·subst h0
  rw [Nat.zero_mul,Array.range_zero']at hf
  simp only [Array.map_empty]at hf
  simp [Instr.buildSlice,run_underlying hu,sizeOf,typeInfo,hi,hsz,hf,newRow,Array.range_zero']
 ·have h1: ¬len*n=0:=by
   rw [Nat.mul_eq_zero];omega
  have h2:n ≠ 0:=by omega
  simp [Instr.buildSlice,run_underlying hu,sizeOf,typeInfo,hi,hsz,hbig,zeroValue,hz,hf,newRow]
  exact fun h=>absurd h h1
theorem eH {P:Program} {F:Fr} {st:St} {a:Act} {w:World} {G:Bp} (h:R F st a w G) {d:Nat} {t:TypeId} {l c:V} {u v:Value} (hx:Am w G l u) (hy:Am w G c v) (hs:(LZ P st d t l c).1):
 ∃ r w' G',(Instr.makeSlice t u v).run P w= .ok r w'∧R F (LZ P st d t l c).2 (a.put (some d) r) w' G':=by
 unfold LZ at *
 split at hs
 ·rename_i k1 l k2 c E n by' hsel
  split at hs
  ·rename_i z hz
   obtain⟨h0,h1,h2,h3,h4,h5⟩:=hs
   obtain⟨i,zv,hu,hi,hzv,hsz,hby,hzs⟩:=ID hsel
   obtain⟨i',zv',hi',hzv',hc⟩:=V3 hz
   rw [hi]at hi';injection hi' with hi';subst hi'
   rw [hzv]at hzv';injection hzv' with hzv';subst hzv'
   simp only [Am,As]at hx hy
   subst hx hy
   have hM:maxLen=9223372036854775807:=rfl
   have hrun:=run_make (P:=P) w t E i zv hu hi hzv k1 k2 l c h0 h1 (by rw [hby,Int.mul_comm];omega) (by omega)
   have hzr:=Zv (Kn (w:=w) (G:=G) hc) (by omega) l.toNat
   rw [hzs]at hzr
   have hle:l.toNat*n≤c.toNat*n:=Nat.mul_le_mul_right _ (by omega)
   have hrow:=h.row (d::st.pre) E n l.toNat c.toNat (Cg z l.toNat) (madeCells zv.cells (c.toNat*i.size)) _ hzr (by
    simp only [madeCells,Array.toList_map,Array.toList_range,List.length_map,List.length_range, ←List.map_take,hzs]
    rw [List.take_range,hsz,Nat.min_eq_left hle]) (by simp [Cg,h4]) (by rw [size_madeCells,hsz]) (by omega) (by omega) true (fun _=>eA (TR hc) _)
   exact⟨_,_,_,hrun,R.put (d:=some d) hrow (bJ rfl)⟩
  ·exact hs.elim
 ·exact hs.elim
theorem PW {P:Program} {F:Fr} {st:St} {a:Act} {w:World} {G:Bp} (h:R F st a w G) {d:Nat} {t:TypeId} {len:Nat} {ps:Array (Nat×Operand)} (hs:(B1 P st d t len ps.toList).1):
 ∃ r w' G',(Instr.buildSlice t len (ps.map fun(i,x)=>(i,a.eval x))).run P w= .ok r w'∧R F (B1 P st d t len ps.toList).2 (a.put (some d) r) w' G':=by
 unfold B1 at *
 split at hs
 ·rename_i E n by' hsel
  split at hs
  ·rename_i z hz
   split at hs
   ·rename_i cs hf
    obtain⟨h1,h2,h3,h4⟩:=hs
    obtain⟨i,zv,hu,hi,hzv,hsz,hby,hzs⟩:=ID hsel
    obtain⟨i',zv',hi',hzv',hc⟩:=V3 hz
    rw [hi]at hi';injection hi' with hi';subst hi'
    rw [hzv]at hzv';injection hzv' with hzv';subst hzv'
    have hzr:=Zv (Kn (w:=w) (G:=G) hc) (by omega) len
    obtain⟨arr',q1,q2⟩:=OW hf (Zw (h.parts rfl h1)) hzr
    have q1':Instr.fill (fun i=>some (i*n,n)) ((Array.range (len*n)).map (zv.cells[· % zv.cells.size]!)) (ps.map fun(i,x)=>(i,a.eval x)).toList =some arr':=by
     rw [hzs]at q1 ⊢;simpa using q1
    have hsize:arr'.size=len*n:=by
     have e1:=q2.length
     have e2:cs.length=(Cg z len).length :=by
      clear hzr q1 q1' q2 e1
      have hz': ∀ (l:List (Nat×V)) (b out:List C),Hz (fun i=>some (i*n,n)) b l=some out→out.length=b.length:=by
       intro l
       induction l with
       | nil=>intro b out ho;simp only [Hz,Option.some.injEq]at ho;rw [←ho]
       | cons p l ih=>
         intro b out ho
         obtain⟨i,v⟩:=p
         simp only [Hz]at ho
         split at ho
         ·rename_i o s c hp hcs
          split at ho
          ·rename_i hb
           have:=ih _ _ ho
           simp only [List.length_append,List.length_take,List.length_drop]at this
           omega
          ·cases ho
         ·cases ho
      exact hz' _ _ _ hf
     simp [Cg,h2]at e2
     simp at e1
     omega
    have hcl:cs.length=len*n:=by have:=q2.length;simp at this;omega
    have hM:maxLen=9223372036854775807:=rfl
    have hlen:len≤maxLen:=by
     have:len*1≤len*n:=Nat.mul_le_mul_left _ h3
     omega
    have hrow:=h.row (d::st.pre) E n len len cs arr' arr'.toList q2 (by rw [List.take_length]) hcl hsize (Nat.le_refl _) hlen (AJ cs) id
    exact⟨_,_,_,run_buildSlice' hu hi hzv hsz h3 h4 q1',R.put (d:=some d) hrow (bJ rfl)⟩
   ·exact hs.elim
  ·exact hs.elim
 ·exact hs.elim
theorem eJ {P:Program} {F:Fr} {st:St} {a:Act} {w:World} {G:Bp} (h:R F st a w G) {o:Oper} (hs:(ef P st o).1):ze P F o a w (ef P st o).2:=by
 obtain⟨dst,op,ty,pos,aft,gd⟩:=o
 cases op<;>cases dst<;>simp only [ef]at hs ⊢ <;>try (exact hs.elim)
 case store.none T x y=>
  obtain⟨w',h1,h2⟩:=PV h (h.arg rfl hs.1) (eD (eE (h.arg rfl hs.2.1))) hs.2.2
  exact⟨.skip,w',G,by simp [execOp,h1], .inr ⟨rfl,h2⟩⟩
 case store.some T x y d=>
  obtain⟨w',h1,h2⟩:=PV h (h.arg rfl hs.1) (eD (eE (h.arg rfl hs.2.1))) hs.2.2
  exact⟨.skip,w',G,by simp [execOp,h1], .inr ⟨rfl,R.put (d:=some d) h2 (by simp [Am])⟩⟩
 case alloc.some T d=>
  split at hs
  ·rename_i cs hz
   obtain⟨i,z,hi,hzv,hc⟩:=V6 hz
   have hb:=h.box (d::st.pre) T cs z.cells (LX hc) false (fun q=>by cases q)
   refine⟨.value (.pointer (some ⟨w.heap.size,0,none⟩)),_,_,?_, .inl ⟨_,rfl,R.put (d:=some d) hb (by simp [Am,As,Ep])⟩⟩
   simp [execOp,Instr.alloc,run_zeroValue' hi hzv,newVar,newRow]
  ·exact hs.elim
 case box.some T x d=>
  split at hs
  ·rename_i cs hc
   have hv:=Hy (h.arg rfl hs.1) hc
   have hb:=h.box (d::st.pre) T cs (a.eval x).cells hv false (fun q=>by cases q)
   refine⟨.value (.pointer (some ⟨w.heap.size,0,none⟩)),_,_,?_, .inl ⟨_,rfl,R.put (d:=some d) hb (by simp [Am,As,Ep])⟩⟩
   simp [execOp,Instr.box,newVar,newRow]
  ·exact hs.elim
 case assign.some x d=>
  split at hs
  all_goals first
   | (rename_i q;cases q;done)
   | (rename_i q
      cases q
      split at hs
      ·rename_i E n hE
       have hb:=h.nilRow (d::st.pre) E n
       exact⟨.value (.slice none 0 0),w,_,by simp [execOp,Act.eval], .inl ⟨_,rfl,R.put (d:=some d) hb (bJ rfl)⟩⟩
      ·exact hs.elim)
   | exact hs.elim
 case buildSlice.some t len ps d=>
  obtain⟨r,w',G',q1,q2⟩:=PW (d:=d) h hs
  exact⟨.value r,w',G',by simp [execOp,q1], .inl ⟨r,rfl,q2⟩⟩
 case makeSlice.some t l c d=>
  obtain⟨r,w',G',q1,q2⟩:=eH (d:=d) h (h.arg rfl hs.1) (h.arg rfl hs.2.1) hs.2.2
  exact⟨.value r,w',G',by simp [execOp,q1], .inl ⟨r,rfl,q2⟩⟩
 case call.some c d=>
  split at hs
  ·rename_i s x t t' h1 h2 h3
   obtain⟨q1,q2,q3,q4⟩:=hs
   subst q3
   have ea:c.args= #[s,x]:=by apply Array.ext';simpa using h2
   have et:c.argTypes= #[t,t]:=by apply Array.ext';simpa using h3
   obtain⟨r,w',G',k1,k2⟩:=Yt (d:=d) (ty:=ty) h (h.arg rfl q1) (h.arg rfl q2) q4
   exact⟨.value r,w',G',by simp [execOp,resolve,h1,ea,et,invoke,builtin,k1], .inl ⟨r,rfl,k2⟩⟩
  ·rename_i s x t t' h1 h2 h3
   obtain⟨q1,q2,_,q4⟩:=hs
   have ea:c.args= #[s,x]:=by apply Array.ext';simpa using h2
   have et:c.argTypes= #[t,t']:=by apply Array.ext';simpa using h3
   obtain⟨r,w',G',k1,k2⟩:=eG (d:=d) (t':=t') (ty:=ty) h (h.arg rfl q1) (h.arg rfl q2) q4
   exact⟨.value r,w',G',by simp [execOp,resolve,h1,ea,et,invoke,builtin,k1], .inl ⟨r,rfl,k2⟩⟩
  ·exact hs.elim
end Go.PL
namespace Go.PL
open Go Go.RowKit
def ent (P:Program) (f:FuncId):Bool:=
 match P.funcs[f]? with
 | some fn=> !(fn.name== "runtime.NumGoroutine")&&fn.body.isSome
 | none=>false
structure AP (P:Program) (I:World→Prop) (f:FuncId) (args:List V) (Q:V→Prop):Prop where
 ent:ent P f=true
 run: ∀ (w:World) (vs:Array Value) (av:Nat→Prop),I w→(∀ b,av b→b<w.heap.size)→AO w (im av) args vs.toList→
  Calls P f vs w (fun e w'=> ∃ v r,e= .returned v∧Q r∧r.pure=true∧Am w' (im av) r v∧Below w.heap.size w w')
theorem run_callFunc' {P:Program} {f:FuncId} (h:ent P f=true) (args:Array Value) (w:World):(callFunc f args).run P w= .ok (.enter f args) w:=by
 unfold ent at h
 split at h
 ·rename_i fn hf
  simp only [Bool.and_eq_true,Bool.not_eq_true']at h
  have h2: ¬fn.body=none:=by
   intro hb;rw [hb]at h;simp at h
  have h1: ¬fn.name= "runtime.NumGoroutine" :=by simpa using h.1
  simp [callFunc,program,Sem.run,hf,h1,h2]
 ·cases h
mutual
def V.flat:V→Bool
 | .c x=>x.flat
 | .agg cs=>cs.all C.flat
 | .tup vs=>Je vs
 | _=>false
def Je:List V→Bool
 | []=>true
 | v::vs=>v.flat&&Je vs
end
mutual
def eK:V→Value
 | .c x=>Hv x
 | .agg cs=> .agg (cs.map Hv).toArray
 | .tup vs=> .tuple (eM vs).toArray
 | _=>Go.undef
def eM:List V→List Value
 | []=>[]
 | v::vs=>eK v::eM vs
end
theorem RZ {w:World} {G:Bp}: ∀ {cs:List C} {vs:List Value},cs.all C.flat=true→(AG w G cs vs↔vs=cs.map Hv)
 | [],[],_=>by simp [AG]
 | [],_::_,_=>by simp [AG]
 | _::_,[],_=>by simp [AG]
 | c::cs,v::vs,h=>by
   simp only [List.all_cons,Bool.and_eq_true]at h
   simp only [AG,List.map_cons,List.cons.injEq,Bl h.1,RZ h.2]
mutual
theorem Hf {w:World} {G:Bp}: ∀ {x:V} {v:Value},x.flat=true→(Am w G x v↔v=eK x)
 | .c x,v,h=>by simp only [Am,eK];exact Bl (by simpa only [V.flat] using h)
 | .agg cs,v,h=>by
   simp only [Am,eK]
   constructor
   ·rintro⟨arr,rfl,hr⟩
    rw [RZ (by simpa only [V.flat] using h)]at hr
    rw [←hr]
   ·intro e
    exact⟨_,e,by rw [RZ (by simpa only [V.flat] using h)]⟩
 | .tup vs,v,h=>by
   simp only [Am,eK]
   constructor
   ·rintro⟨arr,rfl,hr⟩
    rw [Kq (by simpa only [V.flat] using h)]at hr
    rw [←hr]
   ·intro e
    exact⟨_,e,by rw [Kq (by simpa only [V.flat] using h)]⟩
 | .g _ _,_,h=>by simp [V.flat]at h
 | .undef,_,h=>by simp [V.flat]at h
theorem Kq {w:World} {G:Bp}: ∀ {xs:List V} {vs:List Value},Je xs=true→(AO w G xs vs↔vs=eM xs)
 | [],vs,_=>by simp only [AO,eM]
 | x::xs,vs,h=>by
   simp only [Je,Bool.and_eq_true]at h
   simp only [AO,eM]
   constructor
   ·rintro⟨v,r,rfl,h1,h2⟩
    rw [(Hf h.1).1 h1,(Kq h.2).1 h2]
   ·intro e
    exact⟨_,_,e,(Hf h.1).2 rfl,(Kq h.2).2 rfl⟩
end
def IE (st:St):C→C
 | .osl id=>match st.look id with
   | some e=>match e.row with
     | some (_,_,len)=>if e.pu then .sl len e.cs else .any
     | none=> .any
   | none=> .any
 | .nils => .sl 0 []
 | c=>c
def BO (st:St):V→V
 | .c x=> .c (IE st x)
 | .agg cs=> .agg (cs.map (IE st))
 | v=>v
def PX:C→List AC
 | .osl id=>[id]
 | _=>[]
def jq:V→List AC
 | .c x=>PX x
 | .agg cs=>cs.flatMap PX
 | _=>[]
theorem Zx {F:Fr} {st:St} {a:Act} {w:World} {G:Bp} (h:R F st a w G) {av:Nat→Prop} (hav: ∀ b,b<w.heap.size→av b→G.wr b) {c:C} {v:Value} (hid: ∀ id∈PX c,st.okFrz id=true→ ∀ b,G.blk id=some b→ ¬av b)
 (hp:(IE st c).pure =true) (hr:As w G c v):As w (im av) (IE st c) v:=by
 cases c with
 | osl id=>
   simp only [IE]at hp ⊢
   split at hp
   ·rename_i e he
    split at hp
    ·rename_i E n len hrow
     split
     rotate_left
     ·simp only [As];exact hr.one
     rename_i hpu
     have hpl:AJ e.cs=true:=h.pures e (Ct he).1 hpu
     have hok:st.okFrz id=true:=by simp [St.okFrz,he,hrow,hpu]
     have hf:=(h.frz he hrow hpl).own v (by simp only [As]at hr;exact hr.1)
     simp only [As]at hf ⊢
     obtain⟨hpp,ad,cap,q1,q2,q3,q4,q5⟩:=hf
     refine⟨hpp,ad,cap,q1,q2,q3,q4,?_⟩
     rcases q5 with q5 | ⟨b,o,rfl,k1,k2,k3⟩
     ·exact .inl q5
     ·by_cases hz:len=0
      ·exact .inl hz
      refine .inr ⟨b,o,rfl,?_,k2,?_⟩
      ·have hb:G.blk id=some b:=by
        obtain⟨hm,hid'⟩:=Ct he
        have hE:=h.store e hm
        unfold Ck at hE
        rw [hrow]at hE
        obtain⟨hl,v',h1,h2⟩:=hE
        simp only [As]at hr
        rw [hid',hr.1]at h1
        injection h1 with h1;subst h1
        rcases h2 with ⟨_,_,h4,_⟩ | ⟨b',cap',cur,h3,e2,_⟩
        ·exact absurd h4 hz
        ·rw [q1]at h3
         injection h3 with h3;injection h3 with h3;injection h3 with h3
         rw [hid']at e2;rw [h3];exact e2
       exact hid id (by simp [PX]) hok b hb
      ·exact AE.mono (G:=Ep F G id none none) (G':=im av) ⟨Nat.le_refl _,fun _ _ _=>rfl,fun b' hb' hw=>by
        have:=hav b' hb' hw
        rw [h.wr]at this
        simp only [Ep]
        rcases this with q | ⟨i,q⟩
        ·exact .inl q
        ·by_cases hi:i=id
         ·subst hi;exact absurd hw (hid i (by simp [PX]) hok b' q)
         ·exact .inr ⟨i,by simp [hi,q]⟩,fun _ _ _ _=>DG.same rfl⟩ _ _ _ (fun i hi=>by have:Cw i e.cs=true:=hi;rw [BP i e.cs hpl]at this;cases this) (fun _=>rfl) k3
    ·simp [C.pure]at hp ⊢;simp only [As];exact hr.one
   ·simp only [As];exact hr.one
 | nils=>
   simp only [As]at hr
   subst hr
   simp only [IE,As]
   exact⟨rfl,none,0,rfl,Nat.le_refl _,Nat.zero_le _,fun _=>trivial, .inl trivial⟩
 | _=>
   first
    | exact As.mono (G:=G) (G':=im av) ⟨Nat.le_refl _,fun _ _ _=>rfl,fun b hb hw=>hav b hb hw,fun _ _ _ _=>DG.same rfl⟩ _ _ (fun i hi=>absurd (show (IE st _).men i=true from hi) (by rw [LS i _ hp];simp)) hr
theorem Zy {F:Fr} {st:St} {a:Act} {w:World} {G:Bp} (h:R F st a w G) {av:Nat→Prop} (hav: ∀ b,b<w.heap.size→av b→G.wr b): ∀ {cs:List C} {vs:List Value},(∀ id∈cs.flatMap PX,st.okFrz id=true→ ∀ b,G.blk id=some b→ ¬av b)→
 AJ (cs.map (IE st))=true→AG w G cs vs→AG w (im av) (cs.map (IE st)) vs
 | [],[],_,_,_=>by simp [AG]
 | [],_::_,_,_,h=>by simp [AG]at h
 | _::_,[],_,_,h=>by simp [AG]at h
 | c::cs,v::vs,hid,hp,hr=>by
   simp only [AG]at hr
   simp only [List.map_cons,AJ,Bool.and_eq_true]at hp
   simp only [List.map_cons,AG]
   exact⟨Zx h hav (fun id hi=>hid id (by simp [hi])) hp.1 hr.1,Zy h hav (fun id hi=>hid id (by simp only [List.flatMap_cons,List.mem_append];exact .inr hi)) hp.2 hr.2⟩
theorem Zz {F:Fr} {st:St} {a:Act} {w:World} {G:Bp} (h:R F st a w G) {av:Nat→Prop} (hav: ∀ b,b<w.heap.size→av b→G.wr b) {x:V} {v:Value} (hid: ∀ id∈jq x,st.okFrz id=true→ ∀ b,G.blk id=some b→ ¬av b)
 (hp:(BO st x).pure =true) (hr:Am w G x v):Am w (im av) (BO st x) v:=by
 cases x with
 | c x=>simp only [BO,Am]at hr ⊢;exact Zx h hav hid (by simpa only [BO,V.pure] using hp) hr
 | agg cs=>
   simp only [BO,Am]at hr ⊢
   obtain⟨arr,e,hr⟩:=hr
   exact⟨arr,e,Zy h hav hid (by simpa only [BO,V.pure] using hp) hr⟩
 | tup vs=>exact mD hav hp hr
 | g b v'=>exact mD hav hp hr
 | undef=>simp only [BO,Am]
def Er (xs:List V):List AC:=xs.flatMap jq
theorem OX {F:Fr} {st:St} {a:Act} {w:World} {G:Bp} (h:R F st a w G) {av:Nat→Prop} (hav: ∀ b,b<w.heap.size→av b→G.wr b): ∀ {xs:List V} {vs:List Value},(∀ id∈Er xs,st.okFrz id=true→ ∀ b,G.blk id=some b→ ¬av b)→
 Cf (xs.map (BO st))=true→AO w G xs vs→AO w (im av) (xs.map (BO st)) vs
 | [],_,_,_,h=>by simpa [AO] using h
 | x::xs,vs,hid,hp,hr=>by
   simp only [AO]at hr
   obtain⟨v,r,rfl,h1,h2⟩:=hr
   simp only [List.map_cons,Cf,Bool.and_eq_true]at hp
   simp only [List.map_cons,AO]
   exact⟨v,r,rfl,Zz h hav (fun id hi=>hid id (by simp only [Er,List.flatMap_cons,List.mem_append];exact .inl hi)) hp.1 h1,
    OX h hav (fun id hi=>hid id (by simp only [Er,List.flatMap_cons,List.mem_append];exact .inr hi)) hp.2 h2⟩
def St.after (st:St) (ids:List AC) (d:Option Nat) (r:V):St:=
 if r.flat then st.put d r else match ids with
  | []=>st.put d r
  | id::_=>(st.freeze id).put d r
theorem TV {B:Nat} {w w':World} (h:Below B w w'):PR w w':=⟨h.os,h.tape,h.output⟩
theorem OY {w w':World} (h:Below w.heap.size w w'):Ft w w':=⟨h.size,fun b hb=>h.block b hb⟩
end Go.PL
namespace Go.PL
open Go Go.RowKit
def xb:C→C→Bool
 | .int _ a, .int _ b=>a==b
 | .bool a, .bool b=>a==b
 | .str a, .str b=>a==b
 | _,_=>false
def BK:List C→List C→Bool
 | [],[]=>true
 | c::cs,d::ds=>xb c d&&BK cs ds
 | _,_=>false
theorem L2: ∀ {a b c d:List C},a.length=b.length→BK (a++c) (b++d)=(BK a b&&BK c d)
 | [],[],c,d,_=>by simp [BK]
 | x::a,y::b,c,d,h=>by simp only [List.cons_append,BK,L2 (a:=a) (b:=b) (by simpa using h),Bool.and_assoc]
 | [],_::_,_,_,h=>by simp at h
 | _::_,[],_,_,h=>by simp at h
def nS (P:Program) (R:TypeId→List C→Bool) (cs:List C):Nat→List Field→Bool
 | o,[]=>o==cs.length
 | o,f::fs=>f.name != "_" &&f.offset==o&&(match Oe P f.type with
   | some (ag,n)=>(ag||n==1)&&Nat.ble (o+n) cs.length&&R f.type ((cs.drop o).take n)&&nS P R cs (o+n) fs
   | none=>false)
def UZ (P:Program):Nat→TypeId→List C→Bool
 | 0,_,_=>false
 | n+1,t,cs=>match P.underlying t with
   | some .bool =>match cs with
     | [.bool _]=>true
     | _=>false
   | some (.int k)=>match cs with
     | [.int k' _]=>k==k'
     | _=>false
   | some .string =>match cs with
     | [.str _]=>true
     | _=>false
   | some (.struct fs)=> !P.stoodInHeld t&&nS P (UZ P n) cs 0 fs.toList
   | some (.array m e)=>match Oe P e with
     | some (ag,k)=>(ag||k==1)&&cs.length==m*k&&(List.range m).all fun i=>UZ P n e ((cs.drop (i*k)).take k)
     | none=>false
   | _=>false
def jr (P:Program) (t:TypeId):Bool:=match P.underlying t with
 | some d=>d.isRow
 | none=>false
def sM (ag:Bool) (cs:List C):V:=if ag then .agg cs else .c (cs.getD 0 .any)
theorem Vy {ag:Bool} {o n:Nat} {cs:List C} (h0:ag=true∨n=1) (hn:o+n≤cs.length):toV ag o n cs=sM ag ((cs.drop o).take n):=by
 unfold toV sM
 cases ag with
 | true=>rfl
 | false=>
   rcases h0 with h | h
   ·cases h
   subst h
   simp only [Bool.false_eq_true,if_false]
   simp [List.getD_eq_getElem?_getD,List.getElem?_take,List.getElem?_drop]
section
variable {P:Program} {w:World} {G:Bp}
def uY (P:Program) (w:World) (G:Bp) (d n:Nat) (t:TypeId):Prop:=
 ∀ (cs ds:List C) (x y:Value),UZ P n t cs=true→UZ P n t ds=true→Am w G (sM (jr P t) cs) x→Am w G (sM (jr P t) ds) y→ ∀ w',(Op.equalIn d t x y).run P w'= .ok (BK cs ds) w'
theorem Vz {t:TypeId} {ag:Bool} {n:Nat} (h:Oe P t=some (ag,n)):jr P t=ag:=by
 obtain⟨d,i,hu,hd,_⟩:=En h
 unfold jr;rw [hu];exact hd
theorem TW {d n:Nat} (ih: ∀ t,uY P w G d n t) {cs ds:List C} {xs ys:Array Value} (hx:AG w G cs xs.toList) (hy:AG w G ds ys.toList): ∀ (fs:List Field) (o:Nat),nS P (UZ P n) cs o fs=true→nS P (UZ P n) ds o fs=true→
 ∀ w',(Op.eqFields d xs ys fs).run P w'= .ok (BK (cs.drop o) (ds.drop o)) w'
 | [],o,h1,h2,w'=>by
   simp only [nS,beq_iff_eq]at h1 h2
   have e1:cs.drop o=[]:=by rw [h1];simp
   have e2:ds.drop o=[]:=by rw [h2];simp
   rw [e1,e2]
   simp [Op.eqFields,BK]
 | f::fs,o,h1,h2,w'=>by
   simp only [nS,Bool.and_eq_true,bne_iff_ne,ne_eq,beq_iff_eq]at h1 h2
   obtain⟨⟨hn,ho⟩,h1⟩:=h1
   obtain⟨_,h2⟩:=h2
   cases ht:Oe P f.type with
   | none=>rw [ht]at h1;cases h1
   | some p=>
     obtain⟨ag,k⟩:=p
     rw [ht]at h1 h2
     simp only [Bool.and_eq_true,Bool.or_eq_true,beq_iff_eq,Nat.ble_eq]at h1 h2
     obtain⟨⟨⟨h0,l1⟩,r1⟩,q1⟩:=h1
     obtain⟨⟨⟨_,l2⟩,r2⟩,q2⟩:=h2
     obtain⟨a,ra,pa⟩:=run_part' ht hx l1 (h0.imp id (fun h=>by omega))
     obtain⟨b,rb,pb⟩:=run_part' ht hy l2 (h0.imp id (fun h=>by omega))
     rw [Vy h0 l1, ←Vz ht]at ra
     rw [Vy h0 l2, ←Vz ht]at rb
     have he:=ih f.type _ _ a b r1 r2 ra rb w'
     have hrest:=TW ih hx hy fs (o+k) q1 q2 w'
     have split1:cs.drop o=(cs.drop o).take k++cs.drop (o+k):=by rw [←List.drop_drop,List.take_append_drop]
     have split2:ds.drop o=(ds.drop o).take k++ds.drop (o+k):=by rw [←List.drop_drop,List.take_append_drop]
     rw [split1,split2,L2 (by simp;omega)]
     simp only [Op.eqFields,hn,ne_eq,not_false_eq_true,if_true,Sem.run_bind,ho,pa,pb,he,Result.andThen_ok]
     cases BK ((cs.drop o).take k) ((ds.drop o).take k)
     ·simp
     ·simpa using hrest
theorem V7 {d n:Nat} {e:TypeId} (ih:uY P w G d n e) {cs ds:List C} {xs ys:Array Value} {ag:Bool} {k:Nat} (ht:Oe P e=some (ag,k)) (h0:ag=true∨k=1) (hx:AG w G cs xs.toList) (hy:AG w G ds ys.toList): ∀ (m o:Nat),cs.length=(o+m)*k→ds.length=(o+m)*k→
 (∀ i,i<o+m→UZ P n e ((cs.drop (i*k)).take k)=true)→(∀ i,i<o+m→UZ P n e ((ds.drop (i*k)).take k)=true)→
 ∀ w',(Op.eqItems d e k xs ys ((List.range m).map (o+ ·))).run P w'= .ok (BK (cs.drop (o*k)) (ds.drop (o*k))) w'
 | 0,o,l1,l2,_,_,w'=>by
   have e1:cs.drop (o*k)=[]:=by simp at l1;simp [l1]
   have e2:ds.drop (o*k)=[]:=by simp at l2;simp [l2]
   rw [e1,e2]
   simp [Op.eqItems,BK]
 | m+1,o,l1,l2,a1,a2,w'=>by
   have hk:(o+(m+1))*k=o*k+k+m*k:=by rw [Nat.add_mul,Nat.add_mul];omega
   have b1:o*k+k≤cs.length:=by rw [l1,hk];omega
   have b2:o*k+k≤ds.length:=by rw [l2,hk];omega
   obtain⟨a,ra,pa⟩:=run_part' ht hx b1 (h0.imp id (fun h=>by omega))
   obtain⟨b,rb,pb⟩:=run_part' ht hy b2 (h0.imp id (fun h=>by omega))
   rw [Vy h0 b1, ←Vz ht]at ra
   rw [Vy h0 b2, ←Vz ht]at rb
   have he:=ih _ _ a b (a1 o (by omega)) (a2 o (by omega)) ra rb w'
   have hrest:=V7 ih ht h0 hx hy m (o+1) (by rw [l1];congr 1;omega) (by rw [l2];congr 1;omega) (fun i hi=>a1 i (by omega)) (fun i hi=>a2 i (by omega)) w'
   have hl:(List.range (m+1)).map (o+ ·)=o::(List.range m).map (o+1+ ·):=by
    rw [List.range_succ_eq_map,List.map_cons,List.map_map]
    simp only [Nat.add_zero,List.cons.injEq,true_and]
    apply List.map_congr_left
    intro i _
    simp only [Function.comp];omega
   have e1:(o+1)*k=o*k+k:=by rw [Nat.add_mul];omega
   rw [e1]at hrest
   have split1:cs.drop (o*k)=(cs.drop (o*k)).take k++cs.drop (o*k+k):=by rw [←List.drop_drop,List.take_append_drop]
   have split2:ds.drop (o*k)=(ds.drop (o*k)).take k++ds.drop (o*k+k):=by rw [←List.drop_drop,List.take_append_drop]
   rw [split1,split2,L2 (by simp;omega),hl]
   simp only [Op.eqItems,Sem.run_bind,pa,pb,he,Result.andThen_ok]
   cases BK ((cs.drop (o*k)).take k) ((ds.drop (o*k)).take k)
   ·simp
   ·simpa using hrest
theorem bK: ∀ (n d:Nat) (t:TypeId),uY P w G (d+n) n t
 | 0,_,_,_,_,_,_,h,_,_,_,_=>by simp [UZ]at h
 | n+1,d,t,cs,ds,x,y,h1,h2,hx,hy,w'=>by
   unfold UZ at h1 h2
   cases hu:P.underlying t with
   | none=>rw [hu]at h1;cases h1
   | some kd=>
     rw [hu]at h1 h2
     have hr:jr P t=kd.isRow:=by unfold jr;rw [hu]
     rw [hr]at hx hy
     cases kd<;>simp only at h1 h2<;>try (cases h1;done)
     case bool=>
      split at h1<;>try (cases h1;done)
      split at h2<;>try (cases h2;done)
      simp only [sM,Am,As,List.getD_cons_zero,TypeDesc.isRow,Bool.false_eq_true,if_false]at hx hy
      subst hx hy
      rw [show d+(n+1)=(d+n)+1 from rfl,run_equalIn_bool' w' (d+n) t _ _ hu]
      simp [BK,xb]
     case int k=>
      split at h1<;>try (cases h1;done)
      split at h2<;>try (cases h2;done)
      simp only [beq_iff_eq]at h1 h2
      subst h1
      simp only [sM,Am,As,List.getD_cons_zero,TypeDesc.isRow,Bool.false_eq_true,if_false]at hx hy
      subst hx hy h2
      rw [show d+(n+1)=(d+n)+1 from rfl,run_equalIn_int w' (d+n) t _ _ _ _ hu]
      simp [BK,xb]
     case string=>
      split at h1<;>try (cases h1;done)
      split at h2<;>try (cases h2;done)
      simp only [sM,Am,As,List.getD_cons_zero,TypeDesc.isRow,Bool.false_eq_true,if_false]at hx hy
      subst hx hy
      rw [show d+(n+1)=(d+n)+1 from rfl,run_equalIn_string w' (d+n) t _ _ hu]
      simp [BK,xb,ByteArray.toList_eq]
     case struct fs=>
      simp only [Bool.and_eq_true,Bool.not_eq_true']at h1 h2
      simp only [sM,TypeDesc.isRow,if_true,Am]at hx hy
      obtain⟨xs,rfl,hx⟩:=hx
      obtain⟨ys,rfl,hy⟩:=hy
      have hfs:P.fieldsOf t=fs:=by simp [Program.fieldsOf,hu]
      rw [show d+(n+1)=(d+n)+1 from rfl,run_equalIn_struct w' (d+n) t xs ys (by rw [hfs];exact hu) h1.1,hfs]
      have:=TW (fun t=>bK n d t) hx hy fs.toList 0 h1.2 h2.2 w'
      simpa using this
     case array m e=>
      cases ht:Oe P e with
      | none=>rw [ht]at h1;cases h1
      | some p=>
        obtain⟨ag,k⟩:=p
        rw [ht]at h1 h2
        simp only [Bool.and_eq_true,Bool.or_eq_true,beq_iff_eq,List.all_eq_true,List.mem_range]at h1 h2
        simp only [sM,TypeDesc.isRow,if_true,Am]at hx hy
        obtain⟨xs,rfl,hx⟩:=hx
        obtain⟨ys,rfl,hy⟩:=hy
        obtain⟨dd,i,_,_,hi,hsz⟩:=En ht
        have hc:P.cellsOf e=k:=by simp [Program.cellsOf,hi,hsz]
        rw [show d+(n+1)=(d+n)+1 from rfl,run_equalIn_array w' (d+n) xs ys hu hi]
        have:=V7 (bK n d e) ht h1.1.1 hx hy m 0 (by simpa using h1.1.2) (by simpa using h2.1.2) (by simpa using h1.2) (by simpa using h2.2) w'
        simpa [hc] using this
def js (P:Program) (t:TypeId) (cs ds:List C):Bool:= !P.eqGuardType P.depth t&&jr P t&&UZ P 40 t cs&&UZ P 40 t ds
def eN (P:Program) (op:BinOp) (t:TypeId) (cs ds:List C):Prop×V:=
 match op with
 | .eql =>(js P t cs ds=true, .c (.bool (BK cs ds)))
 | .neq =>(js P t cs ds=true, .c (.bool !(BK cs ds)))
 | _=>no
theorem jt {op:BinOp} {t:TypeId} {cs ds:List C} {u v:Value} {ox oy:Operand} (hx:Am w G (.agg cs) u) (hy:Am w G (.agg ds) v) (hs:(eN P op t cs ds).1):
 ∃ r,Am w G (eN P op t cs ds).2 r∧ ∀ w',(do eqGuard op t ox oy u v;binOp op t u v).run P w'= .ok r w':=by
 have key:js P t cs ds=true→ ∃ xs ys,u= .agg xs∧v= .agg ys∧(∀ w',(eqGuard op t ox oy u v).run P w'= .ok () w')∧ ∀ w',(Op.equalIn 10000 t u v).run P w'= .ok (BK cs ds) w':=by
  intro h
  simp only [js,Bool.and_eq_true,Bool.not_eq_true']at h
  have hx':=hx
  have hy':=hy
  simp only [Am]at hx' hy'
  obtain⟨xs,rfl,_⟩:=hx'
  obtain⟨ys,rfl,_⟩:=hy'
  refine⟨xs,ys,rfl,rfl,fun w'=>run_eqGuard_agg w' op t ox oy xs ys h.1.1.1,fun w'=>?_⟩
  exact bK (P:=P) (w:=w) (G:=G) 40 9960 t cs ds _ _ h.1.2 h.2 (by rw [h.1.1.2];exact hx) (by rw [h.1.1.2];exact hy) w'
 unfold eN at *
 split at hs
 ·obtain⟨xs,ys,rfl,rfl,h1,h2⟩:=key hs
  exact⟨_,(Bl rfl).2 rfl,fun w'=>by simp only [Sem.run_bind,h1,Result.andThen_ok,run_eql_struct,h2];rfl⟩
 ·obtain⟨xs,ys,rfl,rfl,h1,h2⟩:=key hs
  exact⟨_,(Bl rfl).2 rfl,fun w'=>by simp only [Sem.run_bind,h1,Result.andThen_ok,run_neq_struct,h2];rfl⟩
 ·exact hs.elim
end
def nT:List C→Bool
 | []=>true
 | .int _ _::cs=>nT cs
 | .bool _::cs=>nT cs
 | .str _::cs=>nT cs
 | _::_=>false
theorem ZA: ∀ {cs:List C},nT cs=true→BK cs cs=true
 | [],_=>rfl
 | c::cs,h=>by
   cases c<;>simp only [nT]at h<;>first | (cases h;done) | (simp only [BK,xb,beq_self_eq_true,Bool.true_and];exact ZA h)
def kinds:List C→List (Option IntKind)
 | []=>[]
 | .int k _::cs=>some k::kinds cs
 | _::cs=>none::kinds cs
theorem VA: ∀ {cs ds:List C},kinds cs=kinds ds→BK cs ds=true→cs=ds
 | [],[],_,_=>rfl
 | [],_::_,_,h=>by simp [BK]at h
 | _::_,[],_,h=>by simp [BK]at h
 | c::cs,d::ds,hk,h=>by
   simp only [BK,Bool.and_eq_true]at h
   cases c<;>cases d<;>simp only [xb,Bool.false_eq_true,false_and]at h
   ·simp only [kinds,List.cons.injEq,Option.some.injEq]at hk
    rw [beq_iff_eq.1 h.1,hk.1,VA hk.2 h.2]
   ·simp only [kinds,List.cons.injEq,true_and]at hk
    rw [beq_iff_eq.1 h.1,VA hk h.2]
   ·simp only [kinds,List.cons.injEq,true_and]at hk
    rw [beq_iff_eq.1 h.1,VA hk h.2]
theorem Df {α:Type} [DecidableEq α] (enc:α→List C) (qx:List C→α) (hd: ∀ a,qx (enc a)=a) (hs: ∀ a,nT (enc a)=true) (hk: ∀ a b,kinds (enc a)=kinds (enc b)) (a b:α):BK (enc a) (enc b)=(a==b):=by
 by_cases h:a=b
 ·subst h;simp [ZA (hs a)]
 ·have:BK (enc a) (enc b)=false:=by
   cases hc:BK (enc a) (enc b)with
   | false=>rfl
   | true=>exact absurd (by rw [←hd a,VA (hk a b) hc,hd b]) h
  simp [this,h]
def AH:C→Int
 | .int _ n=>n
 | _=>0
def bL:C→Bool
 | .bool b=>b
 | _=>false
def eO:C→List UInt8
 | .str s=>s
 | _=>[]
structure Ch (st st':St):Prop where
 len:st'.tm.length=st.tm.length
 tm: ∀ i,st'.tm.getD i .undef = .undef ∨st'.tm.getD i .undef =st.tm.getD i .undef
 so: ∀ e∈st'.so,e∈st.so
 nd:(st.so.map (·.id)).Nodup →(st'.so.map (·.id)).Nodup
 gh:st'.gh.length=st.gh.length∧ ∀ i,st'.gh.getD i .undef = .undef ∨st'.gh.getD i .undef =st.gh.getD i .undef
 pre:st'.pre=st.pre
theorem Ch.refl (st:St):Ch st st:=⟨rfl,fun _=> .inr rfl,fun _ h=>h,id,⟨rfl,fun _=> .inr rfl⟩,rfl⟩
theorem V8 {w:World} {G:Bp}: ∀ {xs ys:List V} {vs:List Value},ys.length=xs.length→(∀ i,ys.getD i .undef = .undef ∨ys.getD i .undef =xs.getD i .undef)→AO w G xs vs→AO w G ys vs
 | [],[],_,_,_,h=>h
 | x::xs,y::ys,vs,hl,hi,h=>by
   simp only [AO]at h ⊢
   obtain⟨v,r,e,h1,h2⟩:=h
   refine⟨v,r,e,?_,V8 (by simpa using hl) (fun i=>by simpa using hi (i+1)) h2⟩
   rcases hi 0 with q | q
   ·simp at q;rw [q];simp only [Am]
   ·simp at q;rw [q];exact h1
 | [],_::_,_,hl,_,_=>by simp at hl
 | _::_,[],_,hl,_,_=>by simp at hl
theorem R.less {F:Fr} {st:St} {a:Act} {w:World} {G:Bp} {st':St} (h:R F st a w G) (hl:Ch st st'):R F st' a w G:={
 dfr:=h.dfr
 size:=by rw [hl.len];exact h.size
 slots:=fun i=>by
  rcases hl.tm i with q | q
  ·rw [q];simp only [Am]
  ·rw [q];exact h.slots i
 ghosts:=V8 hl.gh.1 hl.gh.2 h.ghosts
 store:=fun e he=>h.store e (hl.so e he)
 deep:=fun e he=>h.deep e (hl.so e he)
 pures:=fun e he=>h.pures e (hl.so e he)
 nodup:=hl.nd h.nodup
 inj:=h.inj,lt:=h.lt,new:=h.new,wr:=h.wr,avlt:=h.avlt,inv:=h.inv,avold:=h.avold,os:=h.os,tape:=h.tape,output:=h.output,hsize:=h.hsize,ext:=h.ext}
end Go.PL
namespace Go.PL
open Go Go.RowKit
def bM:List V→Option (List C)
 | []=>some []
 | .c x::vs=>match bM vs with
   | some cs=>some (x::cs)
   | none=>none
 | _=>none
def El (P:Program) (st:St) (g:Bool) (op:Op):Prop×V:=
 match op with
 | .build t ps=>LY P st g t ps.toList
 | .binOp op t x y t'=>match (st.arg g x).2,(st.arg g y).2 with
   | .agg cs, .agg ds=>((st.arg g x).1∧(st.arg g y).1∧(eN P op t cs ds).1,(eN P op t cs ds).2)
   | _,_=>rd P st g (.binOp op t x y t')
 | .makeFunc (.func f) ⟨[]⟩ caps=>match bM (st.args g caps.toList).2 with
   | some cs=>((st.args g caps.toList).1, .c (.clo f cs))
   | none=>no
 | .makeFunc (.func f) ⟨x::xs⟩ ⟨[]⟩=>match bM (st.args g (x::xs)).2 with
   | some cs=>((st.args g (x::xs)).1, .c (.bmv f cs))
   | none=>no
 | op=>rd P st g op
theorem V9 {w:World} {G:Bp}: ∀ {vs:List V} {cs:List C} {us:List Value},bM vs=some cs→AO w G vs us→AG w G cs us
 | [],cs,us,h,hr=>by simp [bM]at h;subst h;simp only [AO]at hr;subst hr;simp [AG]
 | v::vs,cs,us,h,hr=>by
   unfold bM at h
   split at h
   ·cases ‹_=([]:List V)›
   ·rename_i x vs' he
    injection he with h1 h2;subst h1 h2
    split at h
    ·rename_i cs' hcs
     injection h with h;subst h
     simp only [AO,Am]at hr
     obtain⟨u,r,rfl,h1,h2⟩:=hr
     simp only [AG]
     exact⟨h1,V9 hcs h2⟩
    ·cases h
   ·cases h
theorem Hg {P:Program} {F:Fr} {st:St} {a:Act} {w:World} {G:Bp} (h:R F st a w G) {g:Bool} (hg:g=true) {o:Oper} (hs:(El P st g o.op).1):
 ∃ v,Am w G (El P st g o.op).2 v∧ ∀ w',Ft w w'→(execOp a.eval o).run P w'= .ok (.value v) w':=by
 unfold El at *
 split at hs
 ·rename_i t ps ho
  obtain⟨v,q1,q2⟩:=bI h hg hs
  exact⟨v,q1,fun w' _=>by simp [execOp,ho,q2 w']⟩
 ·rename_i op t x y t' ho
  split at hs
  ·rename_i cs ds e1 e2
   have hx:=h.arg hg hs.1
   have hy:=h.arg hg hs.2.1
   rw [e1]at hx
   rw [e2]at hy
   obtain⟨v,q1,q2⟩:=jt (P:=P) (op:=op) (t:=t) (ox:=x) (oy:=y) hx hy hs.2.2
   refine⟨v,q1,fun w' hw'=>?_⟩
   have:=q2 w'
   simp only [execOp,ho,Sem.run_bind]at this ⊢
   rw [this];rfl
  ·rw [←ho]at hs ⊢
   exact ey h hg hs
 ·rename_i f caps ho
  split at hs
  ·rename_i cs hcs
   have:=V9 hcs (h.args hg hs)
   refine⟨.func (.func f) #[] (caps.map a.eval),⟨_,rfl,by simpa using this⟩,fun w' _=>by simp [execOp,ho,Instr.makeFunc]⟩
  ·exact hs.elim
 ·rename_i f x xs ho
  split at hs
  ·rename_i cs hcs
   have:=V9 hcs (h.args hg hs)
   refine⟨.func (.func f) ((x::xs).map a.eval).toArray #[],⟨_,rfl,by simpa using this⟩,fun w' _=>by simp [execOp,ho,Instr.makeFunc]⟩
  ·exact hs.elim
 ·exact ey h hg hs
inductive Kind where
 | rd | ef | call (f:FuncId) (xs:List Operand) | cut (x:Operand) | no
def Ca:Op→Kind
 | .alloc _ | .box _ _ | .buildSlice .. | .makeSlice .. | .store .. => .ef
 | .assign (.const (.slice none 0 0))=> .ef
 | .slice _ x _ _ _=> .cut x
 | .call c=>match c.callee with
   | .builtin .append => .ef
   | .builtin .copy => .ef
   | .builtin _=> .rd
   | .value (.func f)=> .call f c.args.toList
   | _=> .no
 | _=> .rd
def St.cutAt (st:St) (g:Bool) (x:Operand):St:=
 match (st.arg g x).2 with
 | .c (.osl id)=>st.freeze id
 | _=>st
abbrev nU (F:Fr) (K:St→Prop) (a:Act) (w:World):Prop:= ∃ st' G',K st'∧R F st' a w G'
def Yp (P:Program) (I:World→Prop) (o:Oper) (st:St) (K:St→Prop):Prop:=
 ∀ (F:Fr) (a:Act) (w:World) (G:Bp) (Q:Exit→Act→World→Prop),F.I=I→R F st a w G→o.wp P a w (nU F K) Q
def nV (P:Program) (I:World→Prop) (o:Oper) (st:St) (K:St→Prop):Prop:=
 Yp P I o st K∨match Ca o.op with
 | .rd =>(El P st true o.op).1∧K (st.put o.dst (El P st true o.op).2)
 | .ef =>(ef P st o).1∧K (ef P st o).2
 | .call f xs=>(st.args true xs).1∧Cf ((st.args true xs).2.map (BO st))=true∧
  ∃ Q,AP P I f ((st.args true xs).2.map (BO st)) Q∧ ∀ r,Q r→(r.flat=true∨(Er (st.args true xs).2).length ≤1∧ ∀ id∈Er (st.args true xs).2,st.okFrz id=true)∧K (st.after (Er (st.args true xs).2) o.dst r)
 | .cut x=>(El P (st.cutAt true x) true o.op).1∧K ((st.cutAt true x).put o.dst (El P (st.cutAt true x) true o.op).2)
 | .no =>False
def GY (st:St) (ops:Array Oper) (j:Nat) (want:Bool):Option Bool:=
 match ops[j]? with
 | some p=>match p.dst with
   | some t=>match st.get t with
     | .c (.bool b)=>some (b==want)
     | .g c (.c (.bool b))=>some (c&&(b==want))
     | _=>none
   | none=>none
 | none=>none
def uZ (P:Program) (I:World→Prop) (o:Oper) (st:St) (g:Bool) (K:St→Prop):Prop:=
 ((g=true→nV P I o st K)∧(g=false→ ∃ x st',Ch (st.put o.dst (.g g x)) st'∧K st'))∨match Ca o.op with
 | .rd => ∃ v,(g=true→(El P st g o.op).1∧(El P st g o.op).2=v)∧K (st.put o.dst (.g g v))
 | .call f xs=>(g=true→(st.args g xs).1∧Cf ((st.args g xs).2.map (BO st))=true)∧
  ∃ r,(r.flat=true∨Er (st.args g xs).2=[])∧(g=true→AP P I f ((st.args g xs).2.map (BO st)) (· =r))∧K (st.put o.dst (.g g r))
 | _=>False
def mE (P:Program) (I:World→Prop) (ops:Array Oper) (o:Oper) (st:St) (K:St→Prop):Prop:=
 match o.guard with
 | none=>nV P I o st K
 | some (j,want)=>match GY st ops j want with
   | some g=>uZ P I o st g K
   | none=>False
def CF (P:Program) (I:World→Prop) (ops:Array Oper):List Oper→St→(St→Prop)→Prop
 | [],st,K=>K st
 | o::rest,st,K=>mE P I ops o st (fun st'=>CF P I ops rest st' K)
def u0 (P:Program) (I:World→Prop) (o:Oper) (st:St) (K:St→Prop):Prop:=
 match Ca o.op with
 | .rd =>(El P st true o.op).1∧K (st.put o.dst (El P st true o.op).2)
 | .cut _=>(El P st true o.op).1∧K (st.put o.dst (El P st true o.op).2)
 | .call f xs=>(st.args true xs).1∧Cf ((st.args true xs).2.map (BO st))=true∧
  ∃ r,r.flat=true∧AP P I f ((st.args true xs).2.map (BO st)) (· =r)∧K (st.put o.dst r)
 | _=>False
def vd (P:Program) (I:World→Prop) (o:Oper) (st:St) (g:Bool) (K:St→Prop):Prop:=
 match Ca o.op with
 | .rd => ∃ v,(g=true→(El P st g o.op).1∧(El P st g o.op).2=v)∧K (st.put o.dst (.g g v))
 | .cut _=> ∃ v,(g=true→(El P st g o.op).1∧(El P st g o.op).2=v)∧K (st.put o.dst (.g g v))
 | .call f xs=>(g=true→(st.args g xs).1∧Cf ((st.args g xs).2.map (BO st))=true)∧
  ∃ r,r.flat=true∧(g=true→AP P I f ((st.args g xs).2.map (BO st)) (· =r))∧K (st.put o.dst (.g g r))
 | _=>False
def ve (P:Program) (I:World→Prop) (ops:Array Oper) (o:Oper) (st:St) (K:St→Prop):Prop:=
 match o.guard with
 | none=>u0 P I o st K
 | some (j,want)=>match GY st ops j want with
   | some g=>vd P I o st g K
   | none=>False
def ZB (P:Program) (I:World→Prop) (ops:Array Oper):List Oper→St→(St→Prop)→Prop
 | [],st,K=>K st
 | o::rest,st,K=>ve P I ops o st (fun st'=>ZB P I ops rest st' K)
section
variable {P:Program} {F:Fr} {st:St} {a:Act} {w:World} {G:Bp} {ops:Array Oper}
theorem L3 {o:Oper} (h:o.guard=none) (y:Nat→Option Bool):Region.wanted o y=true:=by simp [Region.wanted,h]
theorem HA (h:R F st a w G) {o:Oper} {j:Nat} {want g:Bool} (hg:o.guard=some (j,want)) (hq:GY st ops j want=some g):Region.wanted o (yielded ops a.tmps)=g:=by
 unfold GY at hq
 split at hq
 ·rename_i p hp
  split at hq
  ·rename_i t ht
   have hs:=h.slots t
   have hv: ∀ v:Value,v ≠ Go.undef→a.tmps.getD t Go.undef=v→a.tmps[t]? =some v:=by
    intro v hne he
    rw [Array.getD_eq_getD_getElem?]at he
    cases hx:a.tmps[t]? with
    | none=>rw [hx]at he;exact absurd he.symm hne
    | some x=>rw [hx]at he;exact congrArg some he
   split at hq
   ·rename_i b hb
    injection hq with hq;subst hq
    have:st.tm.getD t .undef = .c (.bool b):=hb
    rw [this]at hs
    simp only [Am,As]at hs
    have:=hv _ (by simp [Go.undef]) hs
    simp [Region.wanted,hg,yielded,hp,ht,this]
   ·rename_i c b hb
    injection hq with hq;subst hq
    have:st.tm.getD t .undef = .g c (.c (.bool b)):=hb
    rw [this]at hs
    simp only [Am,As]at hs
    cases c with
    | true=>
      rw [if_pos rfl]at hs
      have:=hv _ (by simp [Go.undef]) hs
      simp [Region.wanted,hg,yielded,hp,ht,this]
    | false=>
      simp only [Bool.false_eq_true,if_false]at hs
      have hn: ∀ x,a.tmps[t]? =some (.bool x)→False:=by
       intro x hx
       rw [Array.getD_eq_getD_getElem?,hx]at hs
       simp [Go.undef]at hs
      have:yielded ops a.tmps j=none:=by
       unfold yielded
       simp only [hp,Option.bind_some,ht]
       first
        | done
        | (split
           ·rename_i b' hb';exact(hn b' hb').elim
           ·rfl)
      simp [Region.wanted,hg,this]
   ·cases hq
  ·cases hq
 ·cases hq
theorem R.cutAt (h:R F st a w G) (g:Bool) (x:Operand): ∃ G',R F (st.cutAt g x) a w G':=by
 unfold St.cutAt
 split
 ·obtain⟨G',q,_⟩:=h.freeze _;exact⟨G',q⟩
 ·exact⟨G,h⟩
theorem CG {o:Oper} {v:Value} {w':World} {K:Act→World→Prop} {Q:Exit→Act→World→Prop} (hr:(execOp a.eval o).run P w= .ok (.value v) w') (h:K (a.put o.dst v) w'):o.wp P a w K Q:=by
 unfold Oper.wp Oper.upon;rw [hr];exact h
theorem Ny (h:R F st a w G) {o:Oper} {K:St→Prop} {Q:Exit→Act→World→Prop} (hs:nV P F.I o st K):o.wp P a w (nU F K) Q:=by
 unfold nV at hs
 rcases hs with hs | hs
 ·exact hs F a w G Q rfl h
 split at hs
 ·obtain⟨v,q1,q2⟩:=Hg h rfl hs.1
  exact CG (q2 w (Ft.refl w)) ⟨_,G,hs.2,h.put q1⟩
 ·obtain⟨nx,w',G',q1,q2⟩:=(eJ h hs.1).out
  unfold Oper.wp Oper.upon
  rw [q1]
  rcases q2 with ⟨v,rfl,q3⟩ | ⟨rfl,q3⟩
  ·exact⟨_,G',hs.2,q3⟩
  ·exact⟨_,G',hs.2,q3⟩
 ·rename_i f xs hk
  obtain⟨h1,h2,Q',hc,hq⟩:=hs
  have hr:(execOp a.eval o).run P w= .ok (.enter f (xs.map a.eval).toArray) w:=by
   unfold Ca at hk
   split at hk<;>try (cases hk;done)
   rename_i c ho
   split at hk<;>try (cases hk;done)
   rename_i f' hcal
   injection hk with hk1 hk2
   subst hk1 hk2
   simp [execOp,ho,resolve,hcal,Act.eval,Deferred.ofValue,invoke,run_callFunc' hc.ent]
   apply Array.ext';simp
  unfold Oper.wp Oper.upon
  rw [hr]
  refine(h.called (us:=(xs.map a.eval).toArray) hc h2 (by simpa using h.args rfl h1) o.dst (fun r q=>(hq r q).1)).mono fun e w' ⟨v,r,G',he,q,hR⟩=>?_
  subst he
  exact⟨_,G',(hq r q).2,hR⟩
 ·rename_i x hk
  obtain⟨G',hR⟩:=h.cutAt true x
  obtain⟨v,q1,q2⟩:=Hg hR rfl hs.1
  exact CG (q2 w (Ft.refl w)) ⟨_,G',hs.2,hR.put q1⟩
 ·exact hs.elim
theorem eP (h:R F st a w G) {d:Option Nat} {g:Bool} {x:V} {v:Value} (hg:g=true) (hx:Am w G x v):R F (st.put d (.g g x)) (a.put d v) w G:=
 h.put (by simp only [Am];rw [if_pos hg];exact hx)
theorem Wa (h:R F st a w G) {d:Option Nat} {g:Bool} {x:V} (hg:g=false):R F (st.put d (.g g x)) (a.put d Go.undef) w G:=
 h.put (by simp [Am,hg])
theorem bO {o:Oper} {f:FuncId} {xs:List Operand} (hk:Ca o.op= .call f xs) (he:ent P f=true) (w:World):(execOp a.eval o).run P w= .ok (.enter f (xs.map a.eval).toArray) w:=by
 unfold Ca at hk
 split at hk<;>try (cases hk;done)
 rename_i c ho
 split at hk<;>try (cases hk;done)
 rename_i f' hcal
 injection hk with hk1 hk2
 subst hk1 hk2
 simp [execOp,ho,resolve,hcal,Act.eval,Deferred.ofValue,invoke,run_callFunc' he]
 apply Array.ext';simp
theorem Wb (h:R F st a w G) {f:FuncId} {g:Bool} (hg:g=true) {xs:List Operand} (h1:(st.args g xs).1) (h2:Cf ((st.args g xs).2.map (BO st))=true) {r:V} (hr:r.flat=true)
 (hc:AP P F.I f ((st.args g xs).2.map (BO st)) (· =r)) {w':World} (ho:PR w w') (hs:Ft w w'):
 Calls P f (xs.map a.eval).toArray w' (fun e w''=>e= .returned (eK r)∧Below w'.heap.size w' w''):=by
 have hR:=h.same ho hs
 have hav: ∀ b,b<w'.heap.size→(G.wr b∧ ∀ id∈Er (st.args g xs).2,G.blk id ≠ some b)→G.wr b:=fun _ _ q=>q.1
 have h3:=OX hR (av:=fun b=>G.wr b∧ ∀ id∈Er (st.args g xs).2,G.blk id ≠ some b) hav (fun id hi _ b hb hw=>hw.2 id hi hb) h2 (by simpa using hR.args hg h1)
 refine(hc.run w' _ (fun b=>G.wr b∧ ∀ id∈Er (st.args g xs).2,G.blk id ≠ some b) (hR.inv w' hR.hsize hR.ext) (fun b hb=>hR.avlt' hb.1) (by simpa using h3)).mono fun e w'' ⟨v,r',he,hq,_,hv,hb⟩=>?_
 subst hq
 rw [Hf hr]at hv
 exact⟨by rw [he,hv],hb⟩
theorem ZC (h:R F st a w G) {o:Oper} {g:Bool} {K:St→Prop} {Q:Exit→Act→World→Prop} (hs:uZ P F.I o st g K):
 if g=true then o.wp P a w (nU F K) Q else nU F K (a.put o.dst Go.undef) w:=by
 unfold uZ at hs
 rcases hs with hs | hs
 ·split
  ·rename_i hg;exact Ny h (hs.1 hg)
  ·rename_i hg
   have hg':g=false:=by simpa using hg
   obtain⟨x,st',h1,h2⟩:=hs.2 hg'
   exact⟨st',G,h2,(Wa h hg').less h1⟩
 split at hs
 ·obtain⟨x,hx,hs⟩:=hs
  split
  ·rename_i hg
   obtain⟨v,q1,q2⟩:=Hg h hg (hx hg).1
   rw [(hx hg).2]at q1
   exact CG (q2 w (Ft.refl w)) ⟨_,G,hs,eP h hg q1⟩
  ·rename_i hg
   exact⟨_,G,hs,Wa h (by simpa using hg)⟩
 ·rename_i f xs hk
  obtain⟨h1,r,hr,hc,hK⟩:=hs
  split
  ·rename_i hg
   unfold Oper.wp Oper.upon
   rw [bO hk (hc hg).ent w]
   rcases hr with hr | hne
   rotate_left
   ·have hp:=(h1 hg).2
    have h2:=OX h (av:=fun b=>G.wr b) (fun _ _ q=>q) (by rw [hne];simp) hp (by simpa using h.args hg (h1 hg).1:AO w G (st.args g xs).2 (xs.map a.eval))
    refine((hc hg).run w (xs.map a.eval).toArray (fun b=>G.wr b) (h.inv w h.hsize h.ext) (fun b hb=>h.avlt' hb) (by simpa using h2)).mono fun e w' ⟨v,r',he,hq,hpr,hr',hb⟩=>?_
    subst he hq
    exact⟨_,G,hK,eP (h.same (TV hb) (OY hb)) hg (pN (G:=G) (fun _ _ q=>q) hpr hr')⟩
   refine(Wb h hg (h1 hg).1 (h1 hg).2 hr (hc hg) ⟨rfl,rfl,rfl⟩ (Ft.refl w)).mono fun e w' ⟨he,hb⟩=>?_
   subst he
   exact⟨_,G,hK,eP (h.same (TV hb) (OY hb)) hg ((Hf hr).2 rfl)⟩
  ·rename_i hg
   exact⟨_,G,hK,Wa h (by simpa using hg)⟩
 ·exact hs.elim
theorem TX {Q:Exit→Act→World→Prop} {K:St→Prop} (hQ: ∀ st' a' w' G',K st'→R F st' a' w' G'→Q .normal a' w'):
 ∀ (l:List Oper) (st:St) (a:Act) (w:World) (G:Bp),R F st a w G→CF P F.I ops l st K→wpList P ops Q l a w
 | [],st,a,w,G,h,hs=>hQ st a w G hs h
 | o::rest,st,a,w,G,h,hs=>by
   refine wpList_step fun K' hK'=>?_
   have hnext: ∀ a' w',nU F (fun st'=>CF P F.I ops rest st' K) a' w'→K' a' w':=fun a' w' ⟨st',G',q,hR⟩=>
    hK' a' w' (TX hQ rest st' a' w' G' hR q)
   have hmono: ∀ {o:Oper},o.wp P a w (nU F (fun st'=>CF P F.I ops rest st' K)) Q→o.wp P a w K' Q:=fun {o} hw=>by
    unfold Oper.wp Oper.upon at *
    generalize (execOp a.eval o).run P w=r at *
    cases r with
    | ok n w'=>
      cases n<;>simp only at hw ⊢ <;>first
       | exact hnext _ _ hw
       | exact hw.mono fun e w'' he=>by cases e<;>first | exact hnext _ _ he | exact he
       | exact Rows.mono hw fun v w'' he=>hnext _ _ he
       | exact hw
    | halt x w'=>cases x<;>exact hw
   simp only [CF,mE]at hs
   split at hs
   ·rename_i hg
    rw [L3 hg,if_pos rfl]
    exact hmono (Ny h hs)
   ·rename_i j want hg
    split at hs
    ·rename_i g hq
     rw [HA h hg hq]
     have:=ZC (Q:=Q) h hs
     split
     ·rename_i hgt;rw [if_pos hgt]at this;exact hmono this
     ·rename_i hgt;rw [if_neg hgt]at this;exact hnext _ _ this
    ·exact hs.elim
end
end Go.PL
namespace Go.PL
open Go Go.RowKit
section
variable {P:Program} {F:Fr} {st:St} {a:Act} {w:World} {G:Bp} {ops:Array Oper}
def Oj (w:World) (w':World):Prop:=PR w w'∧Ft w w'
theorem Oj.below {w w' w'':World} (h:Oj w w') (hb:Below w'.heap.size w' w''):Oj w w'':=
 ⟨⟨hb.os.trans h.1.os,hb.tape.trans h.1.tape,hb.output.trans h.1.output⟩,h.2.trans (OY hb)⟩
theorem HB {o:Oper} {v:Value} {K:Act→Prop} (hr: ∀ w',Ft w w'→(execOp a.eval o).run P w'= .ok (.value v) w') (h:K (a.put o.dst v)):o.quiet P a (Oj w) K:=
 ⟨v,fun w' hw'=>by unfold Oper.quietAt;rw [hr w' hw'.2];exact⟨rfl,rfl⟩,h⟩
theorem nW (h:R F st a w G) {o:Oper} {K:St→Prop} {K':Act→Prop} (hK: ∀ st' a',K st'→R F st' a' w G→K' a') (hs:u0 P F.I o st K):o.quiet P a (Oj w) K':=by
 unfold u0 at hs
 split at hs
 ·obtain⟨v,q1,q2⟩:=Hg h rfl hs.1
  exact HB q2 (hK _ _ hs.2 (h.put q1))
 ·obtain⟨v,q1,q2⟩:=Hg h rfl hs.1
  exact HB q2 (hK _ _ hs.2 (h.put q1))
 ·rename_i f xs hk
  obtain⟨h1,h2,r,hr,hc,hq⟩:=hs
  refine⟨eK r,fun w' hw'=>?_,hK _ _ hq (h.put ((Hf hr).2 rfl))⟩
  unfold Oper.quietAt
  rw [bO hk hc.ent w']
  exact⟨rfl,(Wb h rfl h1 h2 hr hc hw'.1 hw'.2).mono fun e w'' ⟨he,hb⟩=>⟨he,hw'.below hb⟩⟩
 ·exact hs.elim
theorem nX (h:R F st a w G) {o:Oper} {g:Bool} {K:St→Prop} {K':Act→Prop} (hK: ∀ st' a',K st'→R F st' a' w G→K' a') (hs:vd P F.I o st g K):
 if g=true then o.quiet P a (Oj w) K' else K' (a.put o.dst Go.undef):=by
 unfold vd at hs
 have rdCase:(∃ x,(g=true→(El P st g o.op).1∧(El P st g o.op).2=x)∧K (st.put o.dst (.g g x)))→if g=true then o.quiet P a (Oj w) K' else K' (a.put o.dst Go.undef):=by
  rintro⟨x,hx,hs⟩
  split
  ·rename_i hg
   obtain⟨v,q1,q2⟩:=Hg h hg (hx hg).1
   rw [(hx hg).2]at q1
   exact HB q2 (hK _ _ hs (eP h hg q1))
  ·rename_i hg
   exact hK _ _ hs (Wa h (by simpa using hg))
 split at hs
 ·exact rdCase hs
 ·exact rdCase hs
 ·rename_i f xs hk
  obtain⟨h1,r,hr,hc,hq⟩:=hs
  split
  ·rename_i hg
   refine⟨eK r,fun w' hw'=>?_,hK _ _ hq (eP h hg ((Hf hr).2 rfl))⟩
   unfold Oper.quietAt
   rw [bO hk (hc hg).ent w']
   exact⟨rfl,(Wb h hg (h1 hg).1 (h1 hg).2 hr (hc hg) hw'.1 hw'.2).mono fun e w'' ⟨he,hb⟩=>⟨he,hw'.below hb⟩⟩
  ·rename_i hg
   exact hK _ _ hq (Wa h (by simpa using hg))
 ·exact hs.elim
theorem TY {Q':Act→Prop} {K:St→Prop} (hQ: ∀ st' a',K st'→R F st' a' w G→Q' a'):
 ∀ (l:List Oper) (st:St) (a:Act),R F st a w G→ZB P F.I ops l st K→wpQuiet P ops (Oj w) Q' l a
 | [],st,a,h,hs=>hQ st a hs h
 | o::rest,st,a,h,hs=>by
   have hnext: ∀ st' a',ZB P F.I ops rest st' K→R F st' a' w G→wpQuiet P ops (Oj w) Q' rest a':=fun st' a' q hR=>TY hQ rest st' a' hR q
   simp only [ZB,ve]at hs
   simp only [wpQuiet]
   split at hs
   ·rename_i hg
    rw [L3 hg,if_pos rfl]
    exact nW h hnext hs
   ·rename_i j want hg
    split at hs
    ·rename_i g hq
     rw [HA h hg hq]
     exact nX h hnext hs
    ·exact hs.elim
def Aj (P:Program) (F:Fr) (c:Code) (st:St) (Q:Exit→St→Prop):Prop:=
 ∀ a w G,R F st a w G→c.wp P (fun e a' w'=> ∃ st' G',Q e st'∧R F st' a' w' G') a w
def BM (K:St→Prop) (Q:Exit→St→Prop):Exit→St→Prop
 | .normal,st=>K st
 | e,st=>Q e st
def By (id:Nat) (Q:Exit→St→Prop):Exit→St→Prop
 | .exit j,st=>if j=id then Q .normal st else Q (.exit j) st
 | e,st=>Q e st
theorem Aj.seq {x y:Code} {Q:Exit→St→Prop} (h:Aj P F x st (BM (fun st'=>Aj P F y st' Q) Q)):Aj P F (.seq x y) st Q:=
 fun a w G hR=>wp_seq (Code.wp_mono (fun e a' w' ⟨st',G',q,hR'⟩=>by
  cases e<;>simp only [Exit.then,BM]at q ⊢ <;>first | exact q a' w' G' hR' | exact⟨st',G',q,hR'⟩) (h a w G hR))
theorem Aj.skip {Q:Exit→St→Prop} (h:Q .normal st):Aj P F .skip st Q:=fun _ _ G hR=>wp_skip ⟨st,G,h,hR⟩
theorem Aj.ret {Q:Exit→St→Prop} (h:Q .ret st):Aj P F .ret st Q:=fun _ _ G hR=>wp_ret ⟨st,G,h,hR⟩
theorem Aj.exit {id:Nat} {Q:Exit→St→Prop} (h:Q (.exit id) st):Aj P F (.exit id) st Q:=fun _ _ G hR=>wp_exit ⟨st,G,h,hR⟩
theorem Aj.block {id:Nat} {c:Code} {Q:Exit→St→Prop} (h:Aj P F c st (By id Q)):Aj P F (.block id c) st Q:=
 fun a w G hR=>wp_block (Code.wp_mono (fun e a' w' ⟨st',G',q,hR'⟩=>by
  cases e<;>simp only [Exit.inBlock,By]at q ⊢ <;>first
   | exact⟨st',G',q,hR'⟩
   | (split<;>rename_i hj<;>simp only [hj,if_true,if_false]at q<;>exact⟨st',G',q,hR'⟩)) (h a w G hR))
theorem Aj.cond {c:Operand} {x y:Code} {Q:Exit→St→Prop} {b:Bool} (hc:st.ev c= .c (.bool b)) (h1:b=true→Aj P F x st Q) (h2:b=false→Aj P F y st Q):Aj P F (.cond c x y) st Q:=by
 intro a w G hR
 have:=hR.ev c
 rw [hc]at this
 simp only [Am,As]at this
 refine wp_cond this ?_
 cases b with
 | true=>exact h1 rfl a w G hR
 | false=>exact h2 rfl a w G hR
theorem Aj.region {id:Nat} {ops:Array Oper} {Q:Exit→St→Prop} (h:CF P F.I ops ops.toList st (Q .normal)):Aj P F (.region id ops false) st Q:=
 fun a w G hR=>wp_region_list (TX (K:=Q .normal) (fun st' _ _ G' q hR'=>⟨st',G',q,hR'⟩) _ _ _ _ _ hR h)
theorem Aj.regionQ {id:Nat} {ops:Array Oper} {Q:Exit→St→Prop} (h1:P.follows .mixedOrders =true) (h2:Region.lexB .any ops=true) (h:ZB P F.I ops ops.toList st (Q .normal)):Aj P F (.region id ops true) st Q:=by
 intro a w G hR
 refine wp_region_quiet (C:=Oj w) h1 h2 ⟨⟨rfl,rfl,rfl⟩,⟨Nat.le_refl _,fun _ _=>rfl⟩⟩ ?_
 exact TY (K:=Q .normal) (fun st' a' q hR' w' hw'=>⟨st',G,q,hR'.same hw'.1 hw'.2⟩) _ _ _ hR h
theorem Aj.mono {c:Code} {Q Q':Exit→St→Prop} (h:Aj P F c st Q) (hq: ∀ e st',Q e st'→Q' e st'):Aj P F c st Q':=
 fun a w G hR=>Code.wp_mono (fun _ _ _ ⟨st',G',q,hR'⟩=>⟨st',G',hq _ _ q,hR'⟩) (h a w G hR)
theorem Aj.less {c:Code} {st':St} {Q:Exit→St→Prop} (hl:Ch st st') (h:Aj P F c st' Q):Aj P F c st Q:=
 fun a w G hR=>h a w G (hR.less hl)
theorem Aj.loop {X:Type} (S:X→St) (inv:X→Prop) (μ:X→Nat) {c:Code} {Q:Exit→St→Prop} (x0:X) (h0:inv x0) (hl:Ch st (S x0))
 (hb: ∀ x,inv x→Aj P F c (S x) (BM (fun st'=> ∃ y,inv y∧μ y<μ x∧Ch st' (S y)) Q)):Aj P F (.loop c) st Q:=by
 intro a w G hR
 refine wp_loop_ghost (fun n a' w'=> ∃ x G',inv x∧μ x=n∧R F (S x) a' w' G') (μ x0) ⟨x0,G,h0,rfl,hR.less hl⟩ ?_
 intro n a' w' ⟨x,G',hx,hn,hR'⟩
 subst hn
 refine Code.wp_mono (fun e a'' w'' ⟨st',G'',q,hR''⟩=>?_) (hb x hx a' w' G' hR')
 cases e<;>simp only [BM]at q
 case normal=>
  obtain⟨y,hy,hm,hl'⟩:=q
  exact⟨μ y,hm,y,G'',hy,rfl,hR''.less hl'⟩
 all_goals exact⟨st',G'',q,hR''⟩
end
end Go.PL
namespace Go.PL
open Go Go.RowKit
def PY (P:Program) (st:St):ResultVar→Prop×V
 | .tmp t=>(True,BO st (st.get t))
 | .cell t T=>let r:=Eo P T st (st.get t)
   (r.1,BO st r.2)
def EK (P:Program) (st:St):List ResultVar→Prop×List V
 | []=>(True,[])
 | x::xs=>((PY P st x).1∧(EK P st xs).1,(PY P st x).2::(EK P st xs).2)
def C0 (P:Program) (st:St):List ResultVar→Prop×V
 | [x]=>PY P st x
 | xs=>((EK P st xs).1, .tup (EK P st xs).2)
def mF (P:Program) (fn:Func) (Q:V→Prop):Exit→St→Prop
 | .normal,st=>(C0 P st fn.results.toList).1∧(C0 P st fn.results.toList).2.pure =true∧Q (C0 P st fn.results.toList).2
 | .ret,st=>(C0 P st fn.results.toList).1∧(C0 P st fn.results.toList).2.pure =true∧Q (C0 P st fn.results.toList).2
 | _,_=>False
def St.start (args:List V) (n:Nat):St:={tm:=args++List.replicate (n - args.length) .undef,so:=[]}
theorem D8 {w:World} {G:Bp}: ∀ {xs:List V} {vs:List Value},AO w G xs vs→xs.length=vs.length
 | [],vs,h=>by simp only [AO]at h;subst h;rfl
 | x::xs,vs,h=>by
   simp only [AO]at h
   obtain⟨v,r,rfl,_,h2⟩:=h
   simp [D8 h2]
def OZ (I:World→Prop):Prop:= ∀ w w':World,I w→w.heap.size≤w'.heap.size→(∀ b,b<w.heap.size→w'.heap[b]? =w.heap[b]?)→I w'
theorem R.start {I:World→Prop} (hst:OZ I) {w:World} (hI:I w) {vs:Array Value} {av:Nat→Prop} (hav: ∀ b,av b→b<w.heap.size) {args:List V} (h:AO w (im av) args vs.toList) (n:Nat):
 R ⟨w,av,fun _=>False,I,[]⟩ (St.start args n) {tmps:=vs++Array.replicate (n - vs.size) Go.undef,defers:=[]} w (im av):=by
 have hl:=D8 h
 have hl':args.length=vs.size:=by simpa using hl
 exact {
  dfr:=rfl
  size:=by simp [St.start,hl']
  slots:=by
   intro i
   simp only [St.start,List.getD_eq_getElem?_getD,Array.getD_eq_getD_getElem?]
   by_cases hi:i<args.length
   ·obtain⟨v,q1,q2⟩:=JE h i hi
    have e1:(vs++Array.replicate (n - vs.size) Go.undef)[i]? =some v:=by
     rw [Array.getElem?_append_left (by omega)];simpa using q1
    rw [e1,List.getElem?_append_left hi]
    simpa [List.getD_eq_getElem?_getD] using q2
   ·rw [List.getElem?_append_right (by omega),List.getElem?_replicate]
    split<;>simp [Am]
  ghosts:=by simp [St.start,AO]
  store:=by simp [St.start]
  deep:=by simp [St.start]
  pures:=by simp [St.start]
  nodup:=by simp [St.start]
  inj:=by simp [im]
  lt:=by simp [im]
  new:=by simp [im]
  wr:=by simp [im]
  avlt:=hav
  inv:=fun w' h1 h2=>hst w w' hI h1 (fun b hb=>h2 b hb (by simp))
  avold:=by simp
  os:=rfl,tape:=rfl,output:=rfl,hsize:=Nat.le_refl _,ext:=fun _ _ _=>rfl}
section
variable {P:Program} {F:Fr} {st:St} {a:Act} {w:World} {G:Bp}
theorem R.out (h:R F st a w G) (hold: ∀ b, ¬F.old b) {x:V} {v:Value} (hp:(BO st x).pure =true) (hr:Am w G x v):Am w (im F.av) (BO st x) v:=by
 refine Zz h (fun b _ hb=>(h.wr b).2 (.inl hb)) (fun id _ _ b hb hav=>?_) hp hr
 rcases h.new id b hb with q | q
 ·have:=h.avlt b hav;omega
 ·exact hold b q
theorem ZD {t:TypeId} {x:V} {u:Value} (hx:Am w G x u) (hs:(Eo P t st x).1): ∃ p,u= .pointer (some p):=by
 unfold Eo at hs
 split at hs
 ·simp only [Am,As]at hx
  obtain⟨b,_,rfl⟩:=hx
  exact⟨_,rfl⟩
 ·simp only [Am,As]at hx
  obtain⟨_,b,o,rfl,_⟩:=hx
  exact⟨_,rfl⟩
 ·exact hs.elim
def Jf (tmps:Array Value):ResultVar→Sem Value
 | .tmp t=>pure (tmps.getD t Go.undef)
 | .cell a t=>do loadVar t (←asAddr (tmps.getD a Go.undef))
theorem Wc (h:R F st a w G) (hold: ∀ b, ¬F.old b) {x:ResultVar} (hs:(PY P st x).1) (hp:(PY P st x).2.pure =true):
 ∃ v,(Jf a.tmps x).run P w= .ok v w∧Am w (im F.av) (PY P st x).2 v:=by
 cases x with
 | tmp t=>exact⟨_,rfl,h.out hold hp (h.slots t)⟩
 | cell t T=>
   simp only [PY]at hs hp ⊢
   obtain⟨v,q1,q2⟩:=LT (P:=P) h (h.slots t) hs
   obtain⟨p,hptr⟩:=ZD (h.slots t) hs
   refine⟨v,?_,h.out hold hp q1⟩
   have:=q2 w (Ft.refl w)
   rw [hptr]at this
   simp only [Jf,hptr,asAddr,Sem.run_bind,Sem.run_pure,Result.andThen_ok]
   simpa [Instr.loadAt,Instr.sureAddr] using this
theorem TZ (h:R F st a w G) (hold: ∀ b, ¬F.old b): ∀ {xs:List ResultVar},(EK P st xs).1→Cf (EK P st xs).2=true→
 ∃ vs,(xs.mapM (Jf a.tmps)).run P w= .ok vs w∧AO w (im F.av) (EK P st xs).2 vs
 | [],_,_=>⟨[],by simp,by simp [EK,AO]⟩
 | x::xs,hs,hp=>by
   simp only [EK]at hs hp ⊢
   simp only [Cf,Bool.and_eq_true]at hp
   obtain⟨v,q1,q2⟩:=Wc h hold hs.1 hp.1
   obtain⟨vs,k1,k2⟩:=TZ h hold hs.2 hp.2
   exact⟨v::vs,by simp [List.mapM_cons,q1,k1],by simp only [AO];exact⟨v,vs,rfl,q2,k2⟩⟩
theorem Gf {fn:Func} {tmps:Array Value} {vs:List Value} (h:(fn.results.toList.mapM (Jf tmps)).run P w= .ok vs w):
 (results fn tmps).run P w= .ok (match vs with | [v]=>v | vs=> .tuple vs.toArray) w:=by
 have e:fn.results.mapM (Jf tmps)=List.toArray<$>fn.results.toList.mapM (Jf tmps):=by
  obtain⟨l,hl⟩: ∃ l:List ResultVar,fn.results=l.toArray:=⟨fn.results.toList,by simp⟩
  rw [hl,List.mapM_toArray]
 have e2:results fn tmps=(do
  let vs ←fn.results.mapM (Jf tmps)
  pure (if h:vs.size=1 then vs[0]else .tuple vs)):=by
  unfold results
  congr 1
  all_goals (try (congr 1;funext x;cases x<;>rfl))
 rw [e2,e]
 simp only [Sem.run_bind,Sem.run_map,h,Result.andThen_ok]
 match vs with
 | []=>simp
 | [v]=>simp
 | v::u::vs=>simp
theorem ju (h:R F st a w G) (hold: ∀ b, ¬F.old b) {fn:Func} (hs:(C0 P st fn.results.toList).1) (hp:(C0 P st fn.results.toList).2.pure =true):
 ∃ v,(results fn a.tmps).run P w= .ok v w∧Am w (im F.av) (C0 P st fn.results.toList).2 v:=by
 unfold C0 at *
 split at hs
 ·rename_i x hx
  simp only [hx]at hp ⊢
  obtain⟨v,q1,q2⟩:=Wc h hold hs hp
  exact⟨v,by have:=Gf (P:=P) (w:=w) (fn:=fn) (tmps:=a.tmps) (vs:=[v]) (by rw [hx];simp [q1]);simpa using this,q2⟩
 ·rename_i xs hne
  split at hp
  ·rename_i x hx;exact absurd hx (hne x)
  ·obtain⟨vs,q1,q2⟩:=TZ h hold hs (by simpa only [V.pure] using hp)
   refine⟨.tuple vs.toArray,?_,?_⟩
   ·have:=Gf (P:=P) (w:=w) (fn:=fn) (tmps:=a.tmps) q1
    rw [this]
    have hl:=D8 q2
    match hvs:vs with
    | []=>rfl
    | [v]=>
      exfalso
      have hxl: ∀ xs:List ResultVar,(EK P st xs).2.length =xs.length:=by
       intro xs;induction xs with
       | nil=>rfl
       | cons x xs ih=>simp [EK,ih]
      rw [hxl]at hl
      match hr:fn.results.toList,hl with
      | [x],_=>exact hne x hr
    | v::u::vs=>rfl
   ·simp only [Am];exact⟨_,rfl,by simpa using q2⟩
theorem R.below (h:R F st a w G) (hold: ∀ b, ¬F.old b):Below F.w0.heap.size F.w0 w:=⟨h.os,h.tape,h.output,h.hsize,fun b hb=>h.ext b hb (hold b)⟩
end
theorem AP.of {P:Program} {I:World→Prop} (hst:OZ I) {f:FuncId} {fn:Func} {c:Code} {args:List V} {Q:V→Prop} (hent:PL.ent P f=true) (hf:P.funcs[f]? =some fn) (hb:fn.body=some c)
 (h: ∀ F,F.I=I→Aj P F c (St.start args fn.ntmps) (mF P fn Q)):AP P I f args Q:=by
 refine⟨hent,fun w vs av hI hav hargs=>calls_of_wp hf hb ?_⟩
 have hR:=R.start hst hI hav hargs fn.ntmps
 refine Code.wp_mono (fun e a' w' ⟨st',G',q,hR'⟩=>?_) (h _ rfl _ _ _ hR)
 have fin:(C0 P st' fn.results.toList).1∧(C0 P st' fn.results.toList).2.pure =true∧Q (C0 P st' fn.results.toList).2→
  a'.defers=[]∧ ∃ v,(results fn a'.tmps).run P w'= .ok v w'∧(fun(e:Ending) w''=> ∃ v r,e= .returned v∧Q r∧r.pure=true∧Am w'' (im av) r v∧Below w.heap.size w w'') (.returned v) w':=by
  intro ⟨q1,q2,q3⟩
  obtain⟨v,k1,k2⟩:=ju hR' (fun _ hx=>hx) (fn:=fn) q1 q2
  exact⟨hR'.dfr,v,k1,v,_,rfl,q3,q2,k2,hR'.below (fun _ hx=>hx)⟩
 cases e<;>simp only [mF]at q<;>first | exact fin q | exact q.elim
end Go.PL
namespace Go.PL
open Go Go.RowKit
section
variable {P:Program} {I:World→Prop} {F:Fr} {ops:Array Oper} {rest:List Oper} {st st1:St} {d:Option Nat} {op:Op} {ty:TypeId} {pos:String} {af:Array Edge}
variable {K:St→Prop}
theorem By.out {Q:Exit→St→Prop} {i:Nat} (h:Q .normal st):By i Q (.exit i) st:=by simp only [By,if_true];exact h
variable {j:Nat} {want g:Bool}
theorem AP.body (hsta:OZ I) {f:FuncId} {fn:Func} {c:Code} {args:List V} {Q:V→Prop} {n:Nat} {rs:List ResultVar} (hent:PL.ent P f=true) (hf:P.funcs[f]? =some fn) (hb:fn.body=some c) (hn:fn.ntmps=n) (hr:fn.results=rs.toArray)
 (hst:St.start args n=st)
 (h: ∀ w0 av old gv,Aj P ⟨w0,av,old,I,gv⟩ c st (fun e st'=>(e= .normal ∨e= .ret)∧(C0 P st' rs).1∧(C0 P st' rs).2.pure =true∧Q (C0 P st' rs).2)):AP P I f args Q:=by
 refine AP.of hsta hent hf hb (fun F hF=>?_)
 obtain⟨w0,av,old,I',gv⟩:=F
 simp only at hF;subst hF
 rw [hn,hst]
 refine(h w0 av old gv).mono fun e st' ⟨he,q⟩=>?_
 have:fn.results.toList=rs:=by rw [hr]
 rcases he with rfl | rfl<;>simp only [mF,this]<;>exact q
end
end Go.PL
namespace Go.PL
open Go Go.RowKit
attribute [go_sem] Ca El rd bnd OV St.arg St.args St.ev St.get Km GF Ek VW OU UV Of BQ Iy JC JD sF UW nL Cy Ys
 St.put St.after St.look St.lookR St.setCs St.cutAt St.freeze St.new St.kill AY.kill St.start St.parts
 Eo toV BW Hw B6 GG FA OS jk jl GH IC IB Kp LY Hz V.cells FB UY jp EU TU LZ B1 PL.ef PU
 GY IE BO PX jq Er Gb Gc C.men Cw V.men LN C.flat V.flat Je C.pure AJ V.pure Cf C0 PY EK UX RX Oh St.okFrz
attribute [go_sem] List.getD_cons_zero List.getD_cons_succ List.set_cons_zero List.set_cons_succ List.map_cons List.map_nil List.filter_cons List.filter_nil List.find?_cons List.find?_nil
 List.cons_append List.nil_append List.length_cons List.length_nil List.replicate_succ List.replicate_zero List.take_succ_cons List.take_zero List.drop_succ_cons List.drop_zero List.flatMap_cons List.flatMap_nil List.append_nil
 List.all_cons List.all_nil Bool.and_true Bool.true_and Bool.and_false Bool.false_and Bool.or_false Bool.or_true Bool.false_or Bool.true_or
 beq_self_eq_true if_true if_false true_and and_true Option.map_some Option.map_none List.getElem?_cons_zero List.getElem?_cons_succ
theorem vf {α:Type} (a b:α):(if true=true then a else b)=a:=rfl
theorem vg {α:Type} (a b:α):(if false=true then a else b)=b:=rfl
theorem xf:(true=true)=True:=by simp
theorem xg:(false=true)=False:=by simp
theorem vh (p:Prop):(true=true→p)=p:=by simp
theorem ite_ff' (b:Bool):(if b then true else false)=b:=by cases b<;>rfl
theorem beq_true' (b:Bool):(b==true)=b:=by cases b<;>rfl
theorem beq_false' (b:Bool):(b==false)= !b:=by cases b<;>rfl
theorem sN (b c:Bool):(if b then c else false)=(b&&c):=by cases b<;>rfl
theorem vi (b c:Bool):(if b then true else c)=(b||c):=by cases b<;>rfl
attribute [go_sem] vf vg xf xg vh ite_ff' beq_true' beq_false' sN vi Bool.not_true Bool.not_false Bool.not_not
end Go.PL
