/- The pure logic: PlPv, PlPz, PlPu, PlQa, Ta, Tb, Tc, Td, Te, Tf, Tg, Th, Ti, PlYa, PlYb, PlYc, PlYd, PlYe, PlYf. -/
import Derived.Test.YtenjiecnhncfiaaGreatDoorPlRtoPlPt
import Derived.OrdersHeld
open Bool (and_eq_true or_eq_true or_eq_false_iff not_eq_true')
open Nat (le_succ beq_eq blt_eq ble_eq zero_add add_mul one_mul add_assoc add_zero le_refl)
open List (mem_cons map_cons mem_map all_eq_true flatMap_cons all_cons mem_range mem_of_getElem? map_map nodup_cons getElem?_map ext_getElem? map_append any_eq_true mem_append all_nil)
open Option.some (injEq)
set_option linter.all false
namespace Go.PL
open Go Go.RowKit
def stS:List V->Nat->List Nat->List V
 | [],_,_=>[]
 | v::vs,_,[]=>v::vs
 | v::vs,i,j::l=>match Nat.beq i j with
   | true=> .undef ::stS vs (i+1) l
   | false=>v::stS vs (i+1) (j::l)
def upS:List V->Nat->List (Nat×V)->List V
 | [],_,_=>[]
 | v::vs,_,[]=>v::vs
 | v::vs,i,(j,x)::l=>match Nat.beq i j with
   | true=>x::upS vs (i+1) l
   | false=>v::upS vs (i+1) ((j,x)::l)
inductive Dn where
 | k (n:Nat)
 | s (n:Nat) (l:List (Nat×C))
 | e (x:Ax)
def upC:List C->Nat->List (Nat×C)->List C
 | [],_,_=>[]
 | v::vs,_,[]=>v::vs
 | v::vs,i,(j,x)::l=>match Nat.beq i j with
   | true=>x::upC vs (i+1) l
   | false=>v::upC vs (i+1) ((j,x)::l)
def Adc:List Ax->Nat->Ax
 | [],_=>⟨[],none,[],false⟩
 | e::_,0=>e
 | _::l,n+1=>Adc l n
def soD (old:List Ax):List Dn->List Ax
 | []=>[]
 | .k n::l=>Adc old n::soD old l
 | .s n c::l=>(match Adc old n with | ⟨i,r,cs,p⟩=>⟨i,r,upC cs 0 c,p⟩)::soD old l
 | .e x::l=>x::soD old l
def u (d:List Nat) (l:List (Nat×V)) (st:St):St:=⟨upS (stS st.tm 0 d) 0 l,st.so,st.gh,st.pre⟩
def uo (d:List Nat) (l:List (Nat×V)) (o:List Dn) (st:St):St:=⟨upS (stS st.tm 0 d) 0 l,soD st.so o,st.gh,st.pre⟩
def nA:Nat->List Stp
 | 0=>[]
 | n+1=> .a ::nA n
section
variable {P:Program} {F:Fr} {st:St} {id:Nat} {l:List Oper} {c:Code} {Q:Exit->St->Prop} {cs:List Prop} {K:St->Prop}
theorem Gg (ss:List Stp) (f:St->St) (hl:A8 cs) (h:Ag P F c (f st) Q) (hr:lE (I7 P F.I false l.toArray l ss st) (f st)=some (cs,f st):=by kernel_rfl):Ag P F (.seq (.region id l.toArray false) c) st Q:=Ag.rg _ hr hl h
theorem Ge (ss:List Stp) (f:St->St) (hl:A8 cs) (h:Q .normal (f st)) (hr:I7 P F.I false l.toArray l ss st=some (cs,f st):=by kernel_rfl):Ag P F (.region id l.toArray false) st Q:=Ag.reg hr hl h
theorem Gp {I:World->Prop} {ops:Array Oper} (n:Nat) (ss:List Stp) (f:St->St) (hc:A8 cs) (hK:DN P I ops (l.drop n) (f st) K) (h:I7 P I false ops (l.take n) ss st=some (cs,f st):=by kernel_rfl):DN P I ops l st K:=Run.part n (f st) h hc hK
theorem Gw {I:World->Prop} {ops:Array Oper} (ss:List Stp) (f:St->St) (hc:A8 cs) (hK:K (f st)) (h:I7 P I false ops l ss st=some (cs,f st):=by kernel_rfl):DN P I ops l st K:=Run.whole (f st) h hc hK
theorem Gs (f:St->St) (h:Ag P F c (f st) Q) (hl:lD st (f st)=some (f st):=by kernel_rfl):Ag P F c st Q:=Ag.less (Cn.t hl) h
theorem Gj {X:Type} (S:X->St->St) (Φ:X->Prop) {x y:Code} {Q:Exit->St->Prop} (hx:Ag P F x st (Cv (fun a_=> ∃ v,Φ v/\Wk a_ (S v st)) Q)) (hy: ∀ v,Φ v->Ag P F y (S v st) Q):Ag P F (.seq x y) st Q:=Sj (fun v=>S v st) Φ hx hy
theorem Gi {σ ρ:Type} {B:σ->Option (σ⊕ρ)} (S:σ->St->St) {N:Nat} {s0:σ} {o:ρ} {c:Code} {Q:Exit->St->Prop} (hi:PL.iter B N s0=some o) (hl:Wk st (S s0 st))
 (hb: ∀ s z,B s=some z->(∀ o',z= .inr o'->o'=o)->Ag P F c (S s st) (Cv (fun a_=> ∃ s',z= .inl s'/\Wk a_ (S s' st)) Q)):Ag P F (.loop c) st Q:=It (fun v=>S v st) hi hl hb
theorem hS {x y:Code} {Q:Exit->St->Prop} (h:Ag P F x st (Cv (fun a_=>Ag P F y a_ Q) Q)):Ag P F (.seq x y) st Q:=Ag.seq h
theorem hK (h:Q .normal st):Ag P F .skip st Q:=Ag.skip h
theorem hR (h:Q .ret st):Ag P F .ret st Q:=Ag.ret h
theorem hE {id:Nat} (h:Q (.exit id) st):Ag P F (.exit id) st Q:=Ag.exit h
theorem hB {id:Nat} {c:Code} {Q:Exit->St->Prop} (h:Ag P F c st (Co id Q)):Ag P F (.block id c) st Q:=Ag.block h
theorem hO {id:Nat} {ops:Array Oper} {Q:Exit->St->Prop} (h:DN P F.I ops ops.toList st (Q .normal)):Ag P F (.region id ops false) st Q:=Ag.region h
theorem Te {i:Nat} (h:Q (.exit i) st):Cv K Q (.exit i) st:=h
theorem qN {i:Nat} (h:Q .normal st):Co i Q .normal st:=h
theorem qX {i:Nat} (h:Q .normal st):Co i Q (.exit i) st:=Co.out h
end
section
variable {α:Type} {e x:α}
end
section
variable {α β γ δ ε:Type} {r:ε}
theorem bS2 {o:Option α} {f:α->Option β} {g:α->β->Option ε} (h:(o.bind fun x=>(f x).bind (g x))=some r): ∃ x,o=some x/\ ∃ y,f x=some y/\g x y=some r:=by obtain⟨x,hx,h⟩:=bS h;simp_all [bS]
end
section
variable {P:Program} {F:Fr} {st:St} {K:St->Prop}
theorem iC {cc:Operand} {x y:Code} {Q:Exit->St->Prop} {β:Type} {b:Bool} {X Y:Option β} {r:β} (h:(if b then X else Y)=some r) (h1:X=some r->Ag P F x st Q) (h2:Y=some r->Ag P F y st Q) (hc:st.ev cc= .c (.bool b):=by kernel_rfl):Ag P F (.cond cc x y) st Q:=
 Ag.ifB b hc (by grind) (by grind)
end
theorem Ce.bo {P:Program} {I:World->Prop} (agp:JS I) {f:FuncId} {fn:Func} {c:Code} {args:List V} {Q:V->Prop} {n:Nat} (hf:P.funcs[f]? =some fn) (hb:fn.body=some c) (hn:fn.ntmps=n) (rs:List ResultVar)
 (h: ∀ w0 av old gv,Ag P ⟨w0,av,old,I,gv⟩ c (St.start args n) (fun e a_=>(e= .normal \/e= .ret)/\(DF P a_ rs).1/\(DF P a_ rs).2.pure =true/\Q (DF P a_ rs).2))
 (abR:PL.ent P f=true:=by kernel_rfl) (hr:fn.results=rs.toArray:=by kernel_rfl):Ce P I f args Q:=Ce.body agp abR hf hb hn hr rfl h
end Go.PL
namespace Go.PL
open Go Go.RowKit
end Go.PL
namespace Go.PL
open Go Go.RowKit
def OG (I:World->Prop) (g:Nat) (tab:List (List UInt8)):Prop:= ∀ w,I w-> ∃ T fz,w.heap[g]? =some (.cells (tab.map fun s=>Value.string ⟨s.toArray⟩).toArray T fz)
theorem R.I {F:Fr} {st:St} {a:Act} {w:World} {G:AG} (h:R F st a w G):F.I w:=h.inv w h.x_ h.ext
theorem WC {I:World->Prop} {g:Nat} {tab:List (List UInt8)} (h:OG I g tab) {w:World} (hw:I w) {i:Nat} (hi:i<tab.length):w.cell? ⟨g,i,none⟩=some (.string ⟨(tab.getD i []).toArray⟩):=by obtain⟨T,fz,hh⟩:=h w hw;grind [World.cell?]
section
variable {P:Program} {I:World->Prop} {o:Oper} {st:St} {K:St->Prop}
theorem DW.at2 {t:TypeId} {x:Operand} {g n:Nat} {k:IntKind} {i:Int} {E:TypeId} (ho:o.op= .indexAddr t (.global g) x) (hi:0<=i/\i<n) (hK:K (st.put o.dst (.c (.afY g i.toNat))))
 (hx:st.ev x= .c (.int k i):=by kernel_rfl) (ht:Gq P t=some (n,E,1):=by kernel_rfl):DW P I o st K:=by
 intro F a w G Q hI hR;have hxv:=hR.ev x;rw [hx]at hxv;simp only [Ae,Ah]at hxv;have A_:(execOp a.eval o).run P w= .ok (.value (.pointer (some ⟨g,i.toNat,none⟩))) w:=by have:=JH ht g 0 k i hi.1 hi.2 w;rw [zero_add,Nat.mul_one]at this;have hgl:a.eval (.global g)= .pointer (some ⟨g,0,none⟩):=rfl;simp_all [execOp]
 exact AN A_ ⟨_,G,hK,hR.put (by simp only [Ae,Ah])⟩
theorem DW.at1 {t:TypeId} {x:Operand} {g off:Nat} {tab:List (List UInt8)} (ho:o.op= .load t x) (hg:OG I g tab) (acn:off<tab.length) (hK:K (st.put o.dst (.c (.str (tab.getD off [])))))
 (hx:st.ev x= .c (.afY g off):=by kernel_rfl) (ht:KP P t=some (false,1):=by kernel_rfl):DW P I o st K:=by
 intro F a w G Q hI hR;have hxv:=hR.ev x;rw [hx]at hxv;simp only [Ae,Ah]at hxv;obtain⟨d,i,hu,hd,_⟩:=C9 ht;have hc:=WC hg (hI▸hR.I) acn;have A_:(execOp a.eval o).run P w= .ok (.value (.string ⟨(tab.getD off []).toArray⟩)) w:=by simp_all [execOp,DT]
 exact AN A_ ⟨_,G,hK,hR.put (by simp only [Ae,Ah])⟩
theorem ft {w:World} {G:AG}: ∀ tab:List (List UInt8),Al w G (tab.map C.str) (tab.map fun s=>Value.string ⟨s.toArray⟩)
 | []=>by simp [Al]
 | s::l=>by simp_all [Al,Ah,ft]
theorem DW.ax2 {t:TypeId} {g:Nat} {tab:List (List UInt8)} (ho:o.op= .load t (.global g)) (hg:OG I g tab) (hK:K (st.put o.dst (.agg (tab.map C.str))))
 (ht:KP P t=some (true,tab.length):=by kernel_rfl):DW P I o st K:=by
 intro F a w G Q hI hR;obtain⟨d,i,hu,hd,hi,hsz⟩:=C9 ht;have hw:I w:=hI▸hR.I;have A_:(execOp a.eval o).run P w= .ok (.value (.agg (tab.map fun s=>Value.string ⟨s.toArray⟩).toArray)) w:=by
  have:=run_loadAt_mid (P:=P) w g 0 t (tab.map fun s=>Value.string ⟨s.toArray⟩) d (fun j v hj=>by
   have hjl:j<tab.length:=by grind
   rw [zero_add,WC hg hw hjl];grind) hu hd (by grind)
  have hgl:a.eval (.global g)= .pointer (some ⟨g,0,none⟩):=rfl;simp_all [execOp]
 exact AN A_ ⟨_,G,hK,hR.put (by simp only [Ae];exact⟨_,rfl,by simpa using ft tab⟩)⟩
end
end Go.PL
namespace Go.PL
open Go Go.RowKit
section
variable {α:Type} {l l':List (List α)} {i j:Int} {x:List α} {y y':α} {e:α->List C} {E n:Nat}
end
section
variable {P:Program} {F:Fr} {st:St}
end
end Go.PL
namespace Go.PL
open Go Go.RowKit
inductive Kd where
 | int (k:IntKind)
 | bool
 | str
 | u_ (E:Nat)
def PT (den:Nat->Type):Kd->Type
 | .int _=>Int
 | .bool =>Bool
 | .str =>List UInt8
 | .u_ E=>List (den E)
def DK (den:Nat->Type):List Kd->Type
 | []=>Unit
 | k::ks=>PT den k×DK den ks
def Bz {den:Nat->Type} (enc: ∀ E,den E->List C):(k:Kd)->PT den k->C
 | .int k,n=> .int k n
 | .bool,b=> .bool b
 | .str,s=> .str s
 | .u_ E,l=> .sl l.length (List.flatMap (enc E) l)
def BD {den:Nat->Type} (enc: ∀ E,den E->List C):(ks:List Kd)->DK den ks->List C
 | [],_=>[]
 | k::ks,x=>Bz enc k x.1::BD enc ks x.2
structure Bj where
 den:Nat->Type
 inh: ∀ E,Inhabited (den E)
 enc: ∀ E,den E->List C
 ks:Nat->List Kd
 un: ∀ E,den E->DK den (ks E)
 bd: ∀ E,DK den (ks E)->den E
 beq: ∀ E,den E->den E->Bool
 aev: ∀ E y,un E (bd E y)=y
 aa0: ∀ E x,BD enc (ks E) (un E x)=enc E x
 ah4: ∀ E x y,beq E x y=BT (enc E x) (enc E y)
variable {T:Bj}
instance (E:Nat):Inhabited (T.den E):=T.inh E
def Bj.sz (T:Bj) (E:Nat):Nat:=(T.ks E).length
inductive DC (T:Bj) where
 | c (x:C)
 | k (kd:Kd) (x:PT T.den kd)
 | ip (E:Nat) (l:List (T.den E)) (i:Int) (x:T.den E) (off:Nat)
 | rp (id:Ak) (N:Nat) (i:Int) (off:Nat)
 | ap (id:Ak) (base n E:Nat) (i:Int) (off:Nat)
 | bs (id:Ak) (E:Nat) (o n:Int)
 | clo (b:Bool) (f:FuncId) (cs:List (DC T))
mutual
def DC.toC:DC T->C
 | .c x=>x
 | .k kd x=>Bz T.enc kd x
 | .ip E l i _ off=> .abO (l.flatMap (T.enc E)) (i.toNat*T.sz E+off)
 | .rp id N i off=> .ptr id (i.toNat*N+off)
 | .ap id base _ E i off=> .ptr id (base+i.toNat*T.sz E+off)
 | .bs id E o n=> .rsl id (T.sz E) o.toNat n.toNat
 | .clo true f cs=> .bmv f (As cs)
 | .clo false f cs=> .clo f (As cs)
def As:List (DC T)->List C
 | []=>[]
 | c::cs=>c.toC::As cs
end
theorem CG: ∀ cs:List (DC T),As cs=cs.map DC.toC
 | []=>by simp [As]
 | c::cs=>by simp [As,CG cs]
structure GL where
 t:Nat
 w:Bool
 b:Bool
def Bc:List GL->Bool
 | []=>true
 | [l]=>l.b
 | l::l'::ls=>Bc (l'::ls)&&l.b
theorem J3: ∀ {k:List GL},Bc k=true↔ ∀ l∈k,l.b=true
 | []=>by simp [Bc]
 | [l]=>by simp [Bc]
 | l::l'::ls=>by simp only [Bc,and_eq_true,J3 (k:=l'::ls),mem_cons];grind
inductive DV (T:Bj) where
 | c (x:DC T)
 | agg (cs:List (DC T))
 | tup (vs:List (DV T))
 | g (key:List GL) (v:DV T)
 | u
mutual
def DV.toV:DV T->V
 | .c x=> .c x.toC
 | .agg cs=> .agg (As cs)
 | .tup vs=> .tup (Bf vs)
 | .g key v=> .g (Bc key) v.toV
 | .u => .undef
def Bf:List (DV T)->List V
 | []=>[]
 | v::vs=>v.toV::Bf vs
end
theorem OH: ∀ vs:List (DV T),Bf vs=vs.map DV.toV
 | []=>by simp [Bf]
 | v::vs=>by simp [Bf,OH vs]
def Zu (T:Bj):(k:Kd)->PT T.den k->C
 | .u_ E,l=> .isl E (T.sz E) l.length (List.flatMap (T.enc E) l)
 | .int k,n=> .int k n
 | .bool,b=> .bool b
 | .str,s=> .str s
def BQ (T:Bj):(ks:List Kd)->DK T.den ks->List C
 | [],_=>[]
 | k::ks,x=>Zu T k x.1::BQ T ks x.2
def Bj.aa2 (T:Bj) (E:Nat) (x:T.den E):List C:=BQ T (T.ks E) (T.un E x)
def AC (T:Bj) (E:Nat) (n:Int):Int->List (T.den E)->List C
 | _,[]=>[]
 | k,x::l=>(if k<n then T.aa2 E x else T.enc E x)++AC T E n (k+1) l
def Bk (T:Bj) (E:Nat) (n:Int) (l:List (T.den E)):Option (Int×Nat)->List C
 | none=>AC T E n 0 l
 | some (i,off)=>(AC T E n 0 l).set (i.toNat*T.sz E+off) .any
inductive DX (T:Bj) where
 | box (cs:List (DC T))
 | row (E:Nat) (l:List (T.den E))
 | deep (E:Nat) (n:Int) (l:List (T.den E)) (h:Option (Int×Nat))
structure DE (T:Bj) where
 id:Ak
 tag:Nat
 x:DX T
def DE.toE (e:DE T):Ax:=match e.x with
 | .box cs=>⟨e.id,none,As cs,false⟩
 | .row E l=>⟨e.id,some (E,T.sz E,l.length),l.flatMap (T.enc E),true⟩
 | .deep E n l h=>⟨e.id,some (E,T.sz E,l.length),Bk T E n l h,true⟩
theorem DE.toE_id (e:DE T):e.toE.id=e.id:=by grind [DE.toE]
abbrev Tm (T:Bj):=List (Nat×Nat×DV T)
def lk:Tm T->Nat->DV T
 | [],_=> .u
 | (s,_,v)::r,i=>match Nat.beq s i with
   | true=>v
   | false=>lk r i
def Zv:Tm T->Nat->Nat
 | [],_=>0
 | (s,t,_)::r,i=>match Nat.beq s i with
   | true=>t+1
   | false=>Zv r i
def AD (m:Nat) (tm:Tm T):List V:=(List.range m).map fun i=>(lk tm i).toV
structure Ai (T:Bj) where
 m:Nat
 tm:Tm T
 so:List (DE T)
 gh:List (Nat×Tm T)
 pre:Ak
 nx:Nat
def Ai.toSt (st:Ai T):St:=⟨AD st.m st.tm,st.so.map DE.toE,st.gh.flatMap fun f=>AD f.1 f.2,st.pre⟩
mutual
def DC.ok:DC T->Prop
 | .ip _ l i x _=>idx l i=some x
 | .bs _ _ o n=>0<=o/\0<=n
 | .clo _ _ cs=>Cf cs
 | _=>True
def Cf:List (DC T)->Prop
 | []=>True
 | c::cs=>c.ok/\Cf cs
end
theorem Da: ∀ {cs:List (DC T)},Cf cs↔ ∀ c∈cs,c.ok
 | []=>by simp [Cf]
 | c::cs=>by simp [Cf,Da (cs:=cs)]
structure Aw (T:Bj) where
 v:Nat->DV T
 e:Nat->DE T
def iM:DV T->Bool
 | .c (.k .bool b)=>b
 | .g _ (.c (.k .bool b))=>b
 | _=>false
def GL.ok (H:Aw T) (nx:Nat) (l:GL):Prop:=l.t<nx/\l.b=(iM (H.v l.t)==l.w)
mutual
def DV.ok (H:Aw T) (nx:Nat):DV T->Prop
 | .c x=>x.ok
 | .agg cs=>Cf cs
 | .tup vs=>CQ H nx vs
 | .g key v=>(∀ l∈key,l.ok H nx)/\(Bc key=true->v.ok H nx)
 | .u =>True
def CQ (H:Aw T) (nx:Nat):List (DV T)->Prop
 | []=>True
 | v::vs=>v.ok H nx/\CQ H nx vs
end
theorem OI {H:Aw T} {nx:Nat}: ∀ {vs:List (DV T)},CQ H nx vs↔ ∀ v∈vs,v.ok H nx
 | []=>by simp [CQ]
 | c::cs=>by simp [CQ,OI (vs:=cs)]
def Q5 (H:Aw T) (nx:Nat) (tm:Tm T):Prop:= ∀ s t v,(s,t,v)∈tm->t<nx/\H.v t=v/\v.ok H nx
def DX.ok:DX T->Prop
 | .box cs=>Cf cs
 | .row _ _=>True
 | .deep .. =>True
structure AJ (H:Aw T) (st:Ai T):Prop where
 tm:Q5 H st.nx st.tm
 gh: ∀ f∈st.gh,Q5 H st.nx f.2
 so: ∀ e∈st.so,e.tag<st.nx/\H.e e.tag=e/\e.x.ok
 nd:(st.so.map DE.id).Nodup
def C2 (nx:Nat) (H H':Aw T):Prop:= ∀ t,t<nx->H'.v t=H.v t/\H'.e t=H.e t
theorem C2.refl (nx:Nat) (H:Aw T):C2 nx H H:=fun _ _=>⟨rfl,rfl⟩
theorem C2.trans {n m:Nat} {A B D:Aw T} (h:C2 n A B) (k:C2 m B D) (hnm:n<=m):C2 n A D:=fun t ht=>
 ⟨(k t (by grind)).1.trans (h t ht).1,(k t (by grind)).2.trans (h t ht).2⟩
theorem GL.acA {H H':Aw T} {n m:Nat} (he:C2 n H H') (hnm:n<=m) {l:GL} (h:l.ok H n):l.ok H' m:=
 ⟨Nat.lt_of_lt_of_le h.1 hnm,by rw [(he l.t h.1).1];exact h.2⟩
mutual
theorem DV.acA {H H':Aw T} {n m:Nat} (he:C2 n H H') (hnm:n<=m): ∀ {v:DV T},v.ok H n->v.ok H' m
 | .c _,h=>by grind [DV.ok]
 | .agg _,h=>by grind [DV.ok]
 | .tup vs,h=>by simp only [DV.ok]at h ⊢;exact lH he hnm h
 | .g key v,h=>by simp only [DV.ok]at h ⊢;exact⟨fun l hl=>GL.acA he hnm (h.1 l hl),fun q=>DV.acA he hnm (h.2 q)⟩
 | .u,_=>by simp only [DV.ok]
theorem lH {H H':Aw T} {n m:Nat} (he:C2 n H H') (hnm:n<=m): ∀ {vs:List (DV T)},CQ H n vs->CQ H' m vs
 | [],_=>by simp only [CQ]
 | v::vs,h=>by simp only [CQ]at h ⊢;exact⟨DV.acA he hnm h.1,lH he hnm h.2⟩
end
theorem BW {H H':Aw T} {n m:Nat} (he:C2 n H H') (hnm:n<=m) {tm:Tm T} (h:Q5 H n tm):Q5 H' m tm:=fun s t v hm=>by obtain⟨h1,h2,h3⟩:=h s t v hm;exact⟨(by grind),by rw [(he t h1).1];exact h2,DV.acA he hnm h3⟩
theorem Sn (tm:Tm T) (i:Nat):lk tm i= .u /\Zv tm i=0\/ ∃ t,(i,t,lk tm i)∈tm/\Zv tm i=t+1:=by
 induction tm with
 | nil=>exact .inl ⟨rfl,rfl⟩
 | cons x r ih=>
   obtain⟨s,t,v⟩:=x;simp only [lk,Zv];cases hb:Nat.beq s i with
   | true=>
     simp_all
   | false=>
     grind
theorem Afu {H:Aw T} {nx:Nat} {tm:Tm T} (h:Q5 H nx tm) (i:Nat):(lk tm i).ok H nx:=by
 rcases Sn tm i with ⟨h1,_⟩ | ⟨t,h1,_⟩
 ·grind [DV.ok]
 ·exact(h i t _ h1).2.2
theorem Zw {H:Aw T} {nx:Nat} {tm:Tm T} (h:Q5 H nx tm) {i t:Nat} (ht:Zv tm i=t+1):t<nx/\H.v t=lk tm i:=by
 rcases Sn tm i with ⟨_,h1⟩ | ⟨t',h1,h2⟩
 ·grind
 ·rw [h2]at ht;injection ht with ht;subst ht;obtain⟨a,b,_⟩:=h i t' _ h1;grind
def WD:Value->Option (DC T)
 | .int k n=>some (.k (.int k) n)
 | .bool b=>some (.k .bool b)
 | .string s=>some (.k .str s.data.toList)
 | v=>match Fc v with
   | some c=>some (.c c)
   | none=>none
def J5:List Value->Option (List (DC T))
 | []=>some []
 | v::vs=>match WD v,J5 vs with
   | some c,some cs=>some (c::cs)
   | _,_=>none
def UR:Value->DV T
 | .agg cs=>match J5 cs.toList with
   | some l=> .agg l
   | none=> .u
 | v=>match WD v with
   | some c=> .c c
   | none=> .u
theorem Zx {v:Value} {c:DC T} (h:WD v=some c):Fc v=some c.toC/\c.ok:=by
 unfold WD at h;split at h
 ·injection h with h;subst h;exact⟨rfl,by simp only [DC.ok]⟩
 ·injection h with h;subst h;exact⟨rfl,by simp only [DC.ok]⟩
 ·injection h with h;subst h;exact⟨rfl,by simp only [DC.ok]⟩
 grind [DC.toC,DC.ok]
theorem Zy {v:Value} (h:WD (T:=T) v=none):Fc v=none:=by unfold WD at h;grind
theorem OJ: ∀ {vs:List Value} {cs:List (DC T)},J5 vs=some cs->D3 vs=some (As cs)/\Cf cs
 | [],cs,h=>by grind [J5,D3,As,Cf]
 | v::vs,cs,h=>by
   unfold J5 at h;split at h
   ·rename_i c cs' h1 h2;injection h with h;subst h;obtain⟨a,b⟩:=Zx h1;obtain⟨a',b'⟩:=OJ h2;simp [D3,a,a',As,Cf,b,b']
   ·cases h
theorem WE: ∀ {vs:List Value},J5 (T:=T) vs=none->D3 vs=none
 | [],h=>by simp [J5]at h
 | v::vs,h=>by
   unfold J5 at h;split at h
   ·cases h
   ·rename_i hne;unfold D3;cases h1:WD (T:=T) v with
    | none=>rw [Zy h1]
    | some c=>
      cases h2:J5 (T:=T) vs with
      | none=>rw [WE h2];cases Fc v<;>rfl
      | some cs=>exact(hne c cs h1 h2).elim
theorem WF (v:Value) {H:Aw T} {nx:Nat}:(UR (T:=T) v).toV =MH v/\(UR (T:=T) v).ok H nx:=by
 cases v
 case agg cs=>
  simp only [UR,MH];cases h:J5 (T:=T) cs.toList with
  | some l=>
    obtain⟨a,b⟩:=OJ h;simp_all [DV.toV,DV.ok]
  | none=>simp only [WE h,DV.toV,DV.ok];grind
 all_goals
  simp only [UR,MH];split
  ·rename_i c h;obtain⟨a,b⟩:=Zx h;simp only [a,DV.toV,DV.ok];exact⟨trivial,b⟩
  ·rename_i h;simp only [Zy h,DV.toV,DV.ok];exact(by grind)
def Ai.get (st:Ai T) (t:Nat):DV T:=match Nat.blt t st.m with
 | true=>lk st.tm t
 | false=> .u
def Ai.ev (st:Ai T):Operand->DV T
 | .tmp t=>st.get t
 | .const v=>UR v
 | .func f=> .c (.c (.fn f))
 | .global _=> .u
theorem LU (m:Nat) (tm:Tm T) (t:Nat):(AD m tm).getD t .undef =(match Nat.blt t m with | true=>(lk tm t).toV | false=> .undef):=by
 unfold AD;rw [List.getD_eq_getElem?_getD,getElem?_map];cases hb:Nat.blt t m with
 | true=>
   simp_all
 | false=>
   have: ¬t<m:=by
    intro h;have h2:Nat.blt t m=true:=by simpa using h
    grind
   grind
theorem Ai.aa6 (st:Ai T) (t:Nat):st.toSt.get t=(st.get t).toV :=by show (AD st.m st.tm).getD t .undef =_;grind [LU,Ai.get,DV.toV]
theorem Ai.afZ {H:Aw T} {st:Ai T} (h:AJ H st) (t:Nat):(st.get t).ok H st.nx:=by
 unfold Ai.get;split
 ·exact Afu h.tm t
 ·simp only [DV.ok]
theorem Ai.abE (st:Ai T) (x:Operand):st.toSt.ev x=(st.ev x).toV :=by
 cases x with
 | tmp t=>exact st.aa6 t
 | const v=>exact(WF (T:=T) v (H:=⟨fun _=> .u,fun _=>⟨[],0, .box []⟩⟩) (nx:=0)).1.symm
 | func f=>simp only [St.ev,Ai.ev,DV.toV,DC.toC]
 | global g=>simp only [St.ev,Ai.ev,DV.toV]
theorem Ai.ak9 {H:Aw T} {st:Ai T} (h:AJ H st) (x:Operand):(st.ev x).ok H st.nx:=by cases x<;>grind [Ai.afZ,WF,Ai.ev,DV.ok,DC.ok]
def GL.eq (a b:GL):Bool:=Nat.beq a.t b.t&&(a.w==b.w)
def Zz (l:GL):List GL->Bool
 | []=>false
 | a::r=>match GL.eq l a with
   | true=>true
   | false=>Zz l r
def Q6:List GL->List GL->Bool
 | [],_=>true
 | l::ls,k=>match Zz l k with
   | true=>Q6 ls k
   | false=>false
def Fm (H:Aw T) (nx:Nat) (k:List GL):Prop:= ∀ l∈k,l.ok H nx
theorem GL.ax4 {H:Aw T} {nx:Nat} {a b:GL} (h:a.eq b=true) (ha:a.ok H nx) (hb:b.ok H nx):a.b=b.b:=by simp only [GL.eq,and_eq_true,beq_eq,beq_iff_eq]at h;rw [ha.2,hb.2,h.1,h.2]
theorem lI {H:Aw T} {nx:Nat} {l:GL}: ∀ {k:List GL},Zz l k=true->l.ok H nx->Fm H nx k->Bc k=true->l.b=true
 | [],h,_,_,_=>by simp [Zz]at h
 | a::r,h,hl,hk,hc=>by
   unfold Zz at h;have hc':=J3.1 hc;split at h
   ·rename_i he;rw [GL.ax4 he hl (hk a (by simp))];exact hc' a (by simp)
   ·exact lI h hl (fun x hx=>hk x (by simp [hx])) (J3.2 fun x hx=>hc' x (by simp [hx]))
theorem OL {H:Aw T} {nx:Nat}: ∀ {ls k:List GL},Q6 ls k=true->Fm H nx ls->Fm H nx k->Bc k=true->Bc ls=true
 | [],_,_,_,_,_=>rfl
 | l::ls,k,h,h1,h2,hc=>by
   unfold Q6 at h;split at h
   ·rename_i hh;have a:=lI hh (h1 l (by simp)) h2 hc;have b:=OL h (fun x hx=>h1 x (by simp [hx])) h2 hc;refine J3.2 fun x hx=>?_;rcases mem_cons.1 hx with rfl | hx
    all_goals grind [J3]
   ·cases h
def Ai.arg (st:Ai T) (key:List GL) (x:Operand):Option (DV T):=match st.ev x with
 | .g k v=>match Q6 k key with
   | true=>some v
   | false=>none
 | v=>some v
theorem Ai.aee {H:Aw T} {st:Ai T} {key:List GL} {x:Operand} {v:DV T} (hw:AJ H st) (hk:Fm H st.nx key) (h:st.arg key x=some v) (hc:Bc key=true):
 v.ok H st.nx/\(st.toSt.arg (Bc key) x).1/\(st.toSt.arg (Bc key) x).2=v.toV:=by
 have hev:=Ai.ak9 hw x;have e:=st.abE x;unfold Ai.arg at h;unfold St.arg;split at h
 ·rename_i k v' hx;split at h
  ·rename_i hs;injection h with h;subst h;rw [hx]at e hev;simp only [DV.ok]at hev;simp only [DV.toV]at e;rw [e];have:=OL hs hev.1 hk hc;grind
  ·cases h
 ·rename_i hne;injection h with h;subst h;refine⟨hev,?_⟩;rw [e];cases hv:st.ev x<;>simp_all [DV.toV]
def M (α:Type):=(R:Type)->(α->Option R)->Option R
namespace M
variable {α β:Type}
def ret (v:α):M α:=fun _ K=>K v
def no:M α:=fun _ _=>none
def sm (o:Option α):M α:=fun _ K=>match o with
 | some v=>K v
 | none=>none
def opt (o:Option β) (f:β->M α):M α:=fun R K=>o.bind fun x=>f x R K
def Q_ (m:M β) (f:β->M α):M α:=fun R K=>m R fun x=>f x R K
end M
def Yl {α:Type} (m:M α) (Φ:α->Prop):Prop:= ∀ (R:Type) (K:α->Option R) (r:R),m R K=some r-> ∃ v,Φ v/\K v=some r
namespace Yl
variable {α β:Type} {Φ:α->Prop}
theorem ret {v:α} (h:Φ v):Yl (M.ret v) Φ:=fun _ _ _ hr=>⟨v,h,hr⟩
theorem no:Yl (M.no) Φ:=fun _ _ _ hr=>by cases hr
theorem sm {o:Option α} (h: ∀ v,o=some v->Φ v):Yl (M.sm o) Φ:=fun R K r hr=>by unfold M.sm at hr;grind
theorem opt {o:Option β} {f:β->M α} (h: ∀ x,o=some x->Yl (f x) Φ):Yl (M.opt o f) Φ:=fun R K r hr=>by unfold M.opt at hr;obtain⟨x,h1,h2⟩:=bS hr;exact h x h1 R K r h2
theorem Q_ {m:M β} {f:β->M α} {Ψ:β->Prop} (hm:Yl m Ψ) (h: ∀ x,Ψ x->Yl (f x) Φ):Yl (M.Q_ m f) Φ:=fun R K r hr=>by obtain⟨v,h1,h2⟩:=hm R _ r hr;exact h v h1 R K r h2
theorem mono {m:M α} {Ψ:α->Prop} (hm:Yl m Ψ) (h: ∀ x,Ψ x->Φ x):Yl m Φ:=fun R K r hr=>by obtain⟨v,h1,h2⟩:=hm R K r hr;grind
end Yl
def gk {α:Type} [Inhabited α] (key:List GL) (o:Option α):Option α:=match key with
 | []=>o
 | l::ls=>gd (Bc (l::ls)) o
theorem So {α:Type} [Inhabited α] {key:List GL} {o:Option α} {x:α} (h:gk key o=some x) (hc:Bc key=true):o=some x:=by unfold gk at h;grind [we]
end Go.PL
namespace Go.PL
open Go Go.RowKit
variable {T:Bj}
def WG {den:Nat->Type} {T:Bj} (h: ∀ k,PT den k->DC T):(ks:List Kd)->DK den ks->List (DC T)
 | [],_=>[]
 | k::ks,x=>h k x.1::WG h ks x.2
def iN (E:Nat) (x:T.den E):List (DC T):=WG (fun k y=> .k k y) (T.ks E) (T.un E x)
theorem ZA: ∀ (ks:List Kd) (y:DK T.den ks),As (WG (T:=T) (fun k y=> .k k y) ks y)=BD T.enc ks y
 | [],_=>by simp [WG,As,BD]
 | k::ks,y=>by simp only [WG,As,BD,ZA ks,DC.toC]
theorem Gx (E:Nat) (x:T.den E):As (iN E x)=T.enc E x:=by rw [iN,ZA,T.aa0]
theorem lJ: ∀ (ks:List Kd) (y:DK T.den ks),Cf (WG (T:=T) (fun k y=> .k k y) ks y)
 | [],_=>by simp [WG,Cf]
 | k::ks,y=>by simp only [WG,Cf,DC.ok];exact⟨trivial,lJ ks y.2⟩
theorem MT (E:Nat) (x:T.den E):Cf (iN E x):=lJ _ _
theorem fu {den:Nat->Type} {enc: ∀ E,den E->List C}: ∀ (ks:List Kd) (y:DK den ks),(BD enc ks y).length =ks.length
 | [],_=>rfl
 | k::ks,y=>by simp [BD,fu ks]
theorem AV (E:Nat) (x:T.den E):(T.enc E x).length =T.sz E:=by rw [<-T.aa0,fu];rfl
theorem ZB {den:Nat->Type} {enc: ∀ E,den E->List C} (k:Kd) (x:PT den k):(Bz enc k x).pure =true:=by cases k<;>rfl
theorem ZC {den:Nat->Type} {enc: ∀ E,den E->List C}: ∀ (ks:List Kd) (y:DK den ks),Ap (BD enc ks y)=true
 | [],_=>rfl
 | k::ks,y=>by simp only [BD,Ap,ZB,ZC ks,Bool.and_self]
theorem ZD (E:Nat) (x:T.den E):Ap (T.enc E x)=true:=by rw [<-T.aa0];exact ZC _ _
theorem tX (E:Nat) (l:List (T.den E)):Ap (l.flatMap (T.enc E))=true:=AX _ (ZD E) l
def IW (L_:Bool):(k:Kd)->DC T->Option (PT T.den k)
 | .int k, .k (.int k') n=>match k'==k with
   | true=>some n
   | false=>none
 | .bool, .k .bool b=>some b
 | .str, .k .str s=>some s
 | .u_ E, .k (.u_ E') l=>match Nat.decEq E' E with
   | .isTrue h=>some (show List (T.den E)from h▸l)
   | .isFalse _=>none
 | .u_ E, .c (.sl 0 [])=>some ([]:List (T.den E))
 | .u_ E, .c .L_ =>match L_ with
   | true=>some ([]:List (T.den E))
   | false=>none
 | _,_=>none
def fv (L_:Bool):(ks:List Kd)->List (DC T)->Option (DK T.den ks)
 | [],[]=>some ()
 | k::ks,c::cs=>match IW L_ k c,fv L_ ks cs with
   | some x,some y=>some (x,y)
   | _,_=>none
 | _,_=>none
def vx (L_:Bool) (E:Nat) (cs:List (DC T)):Option (T.den E):=match fv L_ (T.ks E) cs with
 | some y=>some (T.bd E y)
 | none=>none
theorem CR {L_:Bool} {k:Kd} {c:DC T} {x:PT T.den k} (h:IW L_ k c=some x):G5 c.toC=Bz T.enc k x/\(L_=false->c.toC=Bz T.enc k x):=by
 unfold IW at h;split at h
 ·split at h
  ·rename_i hb;have:=beq_iff_eq.1 hb;subst this;injection h with h;subst h;exact⟨rfl,fun _=>rfl⟩
  ·cases h
 ·injection h with h;subst h;exact⟨rfl,fun _=>rfl⟩
 ·injection h with h;subst h;exact⟨rfl,fun _=>rfl⟩
 ·split at h
  ·rename_i e _;subst e;injection h with h;subst h;exact⟨rfl,fun _=>rfl⟩
  ·cases h
 ·injection h with h;subst h;exact⟨rfl,fun _=>rfl⟩
 ·split at h
  ·injection h with h;subst h;exact⟨rfl,fun q=>by cases q⟩
  ·cases h
 ·cases h
theorem ZE {L_:Bool}: ∀ {ks:List Kd} {cs:List (DC T)} {y:DK T.den ks},fv L_ ks cs=some y->(As cs).map G5=BD T.enc ks y/\(L_=false->As cs=BD T.enc ks y)
 | [],[],y,_=>by simp [As,BD]
 | [],_::_,_,h=>by simp [fv]at h
 | _::_,[],_,h=>by simp [fv]at h
 | k::ks,c::cs,y,h=>by
   unfold fv at h;split at h
   ·rename_i x y' h1 h2;injection h with h;subst h;obtain⟨a1,a2⟩:=CR h1;obtain⟨b1,b2⟩:=ZE h2;simp_all [As,BD]
   ·cases h
theorem Ie {L_:Bool} {E:Nat} {cs:List (DC T)} {x:T.den E} (h:vx L_ E cs=some x):(As cs).map G5=T.enc E x/\(L_=false->As cs=T.enc E x):=by
 unfold vx at h;split at h
 ·rename_i y hy;injection h with h;subst h;rw [<-T.aa0,T.aev];exact ZE hy
 ·cases h
def Lv (E:Nat):Nat->List (DC T)->Option (List (T.den E))
 | 0,_=>some []
 | n+1,cs=>match vx false E (cs.take (T.sz E)),Lv E n (cs.drop (T.sz E))with
   | some x,some l=>some (x::l)
   | _,_=>none
theorem Jr (n:Nat) (cs:List (DC T)):As (cs.take n)=(As cs).take n:=by simp [CG,List.map_take]
theorem F3 (n:Nat) (cs:List (DC T)):As (cs.drop n)=(As cs).drop n:=by simp [CG,List.map_drop]
theorem CK (a b:List (DC T)):As (a++b)=As a++As b:=by simp [CG]
theorem AM (a:List (DC T)):(As a).length =a.length:=by simp [CG]
theorem Ei {E:Nat}: ∀ {n:Nat} {cs:List (DC T)} {l:List (T.den E)},Lv E n cs=some l->l.length=n/\ ∃ r,As cs=l.flatMap (T.enc E)++r
 | 0,cs,l,h=>by simp [Lv]at h;simp_all
 | n+1,cs,l,h=>by
   unfold Lv at h;split at h
   ·rename_i x l' h1 h2;injection h with h;subst h;have a:=(Ie h1).2 rfl;obtain⟨b1,r,b2⟩:=Ei h2;refine⟨by simp [b1],r,?_⟩;rw [Jr]at a;rw [F3]at b2;rw [flatMap_cons,List.append_assoc, <-b2, <-a,List.take_append_drop]
   ·cases h
def CZ (ag:Bool) (off n:Nat) (cs:List (DC T)):DV T:=match ag with
 | true=> .agg ((cs.drop off).take n)
 | false=> .c (cs.getD off (.c .any))
theorem Hf (ag:Bool) (off n:Nat) (cs:List (DC T)):(CZ ag off n cs).toV =toV ag off n (As cs):=by
 cases ag
 ·simp only [CZ,DV.toV,toV,CG];rw [if_neg (by simp),List.getD_eq_getElem?_getD,List.getD_eq_getElem?_getD,getElem?_map];grind [DC.toC]
 grind [CZ,DV.toV,toV,Jr,F3]
theorem US {cs:List (DC T)} (h:Cf cs) (n:Nat):Cf (cs.take n):=(by grind [Da])
theorem UT {cs:List (DC T)} (h:Cf cs) (n:Nat):Cf (cs.drop n):=(by grind [Da])
theorem Db {a b:List (DC T)} (h:Cf a) (k:Cf b):Cf (a++b):=(by grind [Da])
theorem If {H:Aw T} {nx:Nat} (ag:Bool) (off n:Nat) {cs:List (DC T)} (h:Cf cs):(CZ ag off n cs).ok H nx:=by cases ag<;>grind [CZ,DV.ok,DC.ok,Da]
def Bi:Ak->Ak->Bool
 | [],[]=>true
 | a::x,b::y=>match Nat.beq a b with
   | true=>Bi x y
   | false=>false
 | _,_=>false
theorem AP: ∀ {a b:Ak},Bi a b=true↔a=b
 | [],[]=>by simp [Bi]
 | [],_::_=>by simp [Bi]
 | _::_,[]=>by simp [Bi]
 | a::x,b::y=>by
   unfold Bi;cases h:Nat.beq a b with
   | true=>
     have:=Nat.eq_of_beq_eq_true h;subst this;simp [AP (a:=x) (b:=y)]
   | false=>
     have:a ≠ b:=fun e=>by subst e;simp at h
     simp [this]
def rR:List (DC T)->Bool
 | [.c (.mp _)]=>true
 | _=>false
def G6:List (DE T)->Ak->Option (DE T)
 | [],_=>none
 | e::r,id=>match Bi e.id id with
   | true=>some e
   | false=>G6 r id
def DX.isM:DX T->Bool
 | .box cs=>rR cs
 | .row _ _=>false
 | .deep .. =>false
def Ai.look (st:Ai T) (id:Ak):Option (DX T):=match Dh id||Fj id with
 | true=>none
 | false=>match G6 st.so id with
   | some e=>match e.x.isM with
     | true=>none
     | false=>some e.x
   | none=>none
theorem CT: ∀ {l:List (DE T)} {id:Ak} {e:DE T},G6 l id=some e->e∈l/\e.id=id/\ ∀ p:Ax->Bool,(∀ x:DE T,x.id ≠ id->p x.toE=false)->p e.toE=true->(l.map DE.toE).find? p=some e.toE
 | [],_,_,h=>by simp [G6]at h
 | x::r,id,e,h=>by
   unfold G6 at h;split at h
   ·rename_i hb;injection h with h;subst h;exact⟨by simp,AP.1 hb,fun p _ hp=>by simp [List.find?_cons,hp]⟩
   ·rename_i hb;obtain⟨h1,h2,h3⟩:=CT h;refine⟨by simp [h1],h2,fun p hp he=>?_⟩;have hne:x.id ≠ id:=fun q=>by rw [AP.2 q]at hb;cases hb
    rw [map_cons,List.find?_cons,hp x hne];exact h3 p hp he
theorem fw {cs:List (DC T)} (h:rR cs=false) (hk: ∀ c∈cs, ∀ kv,c.toC= .mp kv->c= .c (.mp kv)):ic (As cs)=false:=by
 match cs with
 | []=>rfl
 | [c]=>
   simp only [As,ic];grind [rR]
 | a::b::r=>
   simp only [As];generalize a.toC=x;generalize b.toC=y;generalize As r=z;cases x<;>rfl
theorem wq (c:DC T) (kv:List (Int×Int)) (h:c.toC= .mp kv):c= .c (.mp kv):=by
 cases c with
 | c x=>grind [DC.toC]
 | k kd x=>cases kd<;>simp [DC.toC,Bz]at h
 | ip=>simp [DC.toC]at h
 | rp=>simp [DC.toC]at h
 | ap=>simp [DC.toC]at h
 | bs=>simp [DC.toC]at h
 | clo b f cs=>cases b<;>simp [DC.toC]at h
theorem Ai.ahU {st:Ai T} {id:Ak} {x:DX T} (h:st.look id=some x): ∃ e,e∈st.so/\e.id=id/\e.x=x/\st.toSt.look id=some e.toE/\st.toSt.acj id=some e.toE/\Fj id=false/\Dh id=false:=by
 unfold Ai.look at h;split at h
 ·cases h
 ·rename_i hd;simp only [or_eq_false_iff]at hd;split at h
  ·rename_i e he;split at h
   ·cases h
   ·rename_i hm;injection h with h;subst h;obtain⟨h1,h2,h3⟩:=CT he;have hM:e.toE.isM=false:=by
     unfold DE.toE Ax.isM;cases hx:e.x with
     | box cs=>
       rw [hx]at hm;exact fw hm (fun c _ kv q=>wq c kv q)
     | row E l=>rfl
     | deep E n l h=>rfl
    have hid:=e.toE_id;refine⟨e,h1,h2,rfl,?_,?_,hd.2,hd.1⟩
    ·refine h3 _ (fun y hy=>?_) ?_
     all_goals grind [DE.toE_id]
    ·refine h3 _ (fun y hy=>?_) ?_
     all_goals grind [DE.toE_id]
  ·cases h
theorem DE.toE_box {e:DE T} {cs:List (DC T)} (h:e.x= .box cs):e.toE=⟨e.id,none,As cs,false⟩:=by unfold DE.toE;rw [h]
theorem DE.toE_row {e:DE T} {E:Nat} {l:List (T.den E)} (h:e.x= .row E l):e.toE=⟨e.id,some (E,T.sz E,l.length),l.flatMap (T.enc E),true⟩:=by unfold DE.toE;rw [h]
def FH (ag:Bool) (off n N:Nat):Bool:=Nat.ble (off+n) N&&(ag||Nat.blt 0 n)
theorem CL {ag:Bool} {off n N:Nat} (h:FH ag off n N=true):off+n<=N/\(ag=true\/0<n):=by simp_all [FH]
def K2 (st:Ai T) (id:Ak):Option (List (DC T)):=match st.look id with
 | some (.box cs)=>some cs
 | _=>none
def DO (st:Ai T) (id:Ak):Option ((E:Nat)×List (T.den E)):=match st.look id with
 | some (.row E l)=>some ⟨E,l⟩
 | _=>none
theorem Hg {st:Ai T} {id:Ak} {cs:List (DC T)} (h:K2 st id=some cs):st.toSt.look id=some ⟨id,none,As cs,false⟩/\st.toSt.acj id=some ⟨id,none,As cs,false⟩/\ ∃ e∈st.so,e.id=id/\e.x= .box cs:=by
 unfold K2 at h;split at h
 ·rename_i cs' hl;injection h with h;subst h;obtain⟨e,h1,h2,h3,h4,h5,_⟩:=Ai.ahU hl;grind [DE.toE_box]
 ·cases h
theorem BU {st:Ai T} {id:Ak} {E:Nat} {l:List (T.den E)} (h:DO st id=some ⟨E,l⟩):st.toSt.look id=some ⟨id,some (E,T.sz E,l.length),l.flatMap (T.enc E),true⟩/\st.toSt.acj id=some ⟨id,some (E,T.sz E,l.length),l.flatMap (T.enc E),true⟩/\ ∃ e∈st.so,e.id=id/\e.x= .row E l:=by
 unfold DO at h;split at h
 ·rename_i E' l' hl;injection h with h;injection h with h1 h2;subst h1;have h2:=eq_of_heq h2;subst h2;obtain⟨e,h1,h2,h3,h4,h5,_⟩:=Ai.ahU hl;grind [DE.toE_row]
 ·cases h
theorem Sq {H:Aw T} {st:Ai T} (hw:AJ H st) {id:Ak} {cs:List (DC T)} (h:K2 st id=some cs):Cf cs:=by obtain⟨_,_,e,h1,_,h3⟩:=Hg h;have:=(hw.so e h1).2.2;rw [h3]at this;exact this
def LV (st:Ai T) (id:Ak):Option ((E:Nat)×(Int×List (T.den E)×Option (Int×Nat))):=match Dh id with
 | true=>none
 | false=>match G6 st.so id with
   | some e=>match e.x with
     | .deep E n l h=>some ⟨E,(n,l,h)⟩
     | _=>none
   | none=>none
theorem CA {st:Ai T} {id:Ak} {E:Nat} {n:Int} {l:List (T.den E)} {h:Option (Int×Nat)} (hr:LV st id=some ⟨E,(n,l,h)⟩):Dh id=false/\st.toSt.acj id=some ⟨id,some (E,T.sz E,l.length),Bk T E n l h,true⟩/\ ∃ e∈st.so,e.id=id/\e.x= .deep E n l h:=by
 unfold LV at hr;split at hr
 ·cases hr
 ·rename_i hmk;split at hr
  ·rename_i e he;split at hr
   ·rename_i E' n' l' h' hx;injection hr with hr;injection hr with h1 h2;subst h1;have h2:=eq_of_heq h2;injection h2 with h2 h3;injection h3 with h3 h4;subst h2 h3 h4;obtain⟨a,b,c⟩:=CT he;have hE:e.toE=⟨id,some (E',T.sz E',l'.length),Bk T E' n' l' h',true⟩:=by grind [DE.toE]
    refine⟨hmk,?_,e,a,b,hx⟩;rw [<-hE];refine c _ (fun y hy=>?_) ?_
    all_goals grind [DE.toE_id,Ax.isM]
   ·cases hr
  ·cases hr
def rS (st:Ai T) (id:Ak):Option ((E:Nat)×List (T.den E)):=match DO st id with
 | some r=>some r
 | none=>match LV st id with
   | some ⟨E,(_,l,_)⟩=>some ⟨E,l⟩
   | none=>none
theorem ZF {st:Ai T} {id:Ak} {E:Nat} {l:List (T.den E)} (h:rS st id=some ⟨E,l⟩): ∃ e,st.toSt.acj id=some e/\e.row=some (E,T.sz E,l.length):=by
 unfold rS at h;split at h
 ·rename_i r hr;injection h with h;subst h;exact⟨_,(BU hr).2.1,rfl⟩
 ·split at h
  ·rename_i E' n' l' h' hr;injection h with h;injection h with h1 h2;subst h1;have h2:=eq_of_heq h2;subst h2;exact⟨_,(CA hr).2.1,rfl⟩
  ·cases h
theorem ZG: ∀ (ks:List Kd) (y:DK T.den ks),(BQ T ks y).length =ks.length
 | [],_=>rfl
 | k::ks,y=>by simp only [BQ,List.length_cons,ZG ks y.2]
theorem Ej (E:Nat) (x:T.den E):(T.aa2 E x).length =T.sz E:=ZG _ _
theorem J6 (E:Nat) (n:Int): ∀ (k:Int) (l:List (T.den E)),(AC T E n k l).length =l.length*T.sz E
 | _,[]=>by simp [AC]
 | k,x::l=>by rw [AC,List.length_append,J6 E n (k+1) l,List.length_cons,add_mul,one_mul,Nat.add_comm];grind [Ej,AV]
theorem Fn (E:Nat) (n:Int) (l:List (T.den E)) (h:Option (Int×Nat)):(Bk T E n l h).length =l.length*T.sz E:=by unfold Bk;grind [J6]
theorem J8 {E:Nat} {n:Int}: ∀ {l:List (T.den E)} {k:Int} {i:Nat} {x:T.den E} {p:Nat},l[i]? =some x->p<T.sz E->(AC T E n k l)[i*T.sz E+p]? =(if k+i<n then T.aa2 E x else T.enc E x)[p]?
 | [],_,_,_,_,h,_=>by simp at h
 | y::l,k,0,x,p,h,hp=>by
   simp only [List.getElem?_cons_zero,injEq]at h;subst h;rw [AC,Nat.zero_mul,zero_add,List.getElem?_append_left]
   all_goals grind [Ej,AV]
 | y::l,k,i+1,x,p,h,hp=>by
   have hl:(if k<n then T.aa2 E y else T.enc E y).length =T.sz E:=by grind [Ej,AV]
   rw [AC,List.getElem?_append_right (by rw [hl,add_mul,one_mul];omega),hl,show (i+1)*T.sz E+p - T.sz E=i*T.sz E+p by rw [add_mul,one_mul];omega];rw [J8 (by simpa using h) hp];congr 2;push_cast;rw [show k+1+(i:Int)=k+((i:Int)+1) by omega]
def PU:Kd->Bool
 | .u_ _=>false
 | _=>true
theorem fx: ∀ {ks:List Kd} {y:DK T.den ks} {p:Nat},(∀ k,ks[p]? =some k->PU k=true)->(BQ T ks y)[p]? =(BD T.enc ks y)[p]?
 | [],_,_,_=>rfl
 | k::ks,y,0,h=>by have:=h k rfl;simp only [BQ,BD,List.getElem?_cons_zero,injEq];cases k<;>first | rfl | cases this
 | k::ks,y,p+1,h=>by simp only [BQ,BD,List.getElem?_cons_succ];exact fx (fun k' hk=>h k' (by simpa using hk))
def lK (h:Option (Int×Nat)) (off n:Nat):Bool:=match h with
 | none=>true
 | some (_,o)=> !(Nat.ble off o&&Nat.blt o (off+n))
def pw (T:Bj) (E off n:Nat) (h:Option (Int×Nat)):Bool:=(((T.ks E).drop off).take n).all PU&&lK h off n
theorem px {i j N p q:Nat} (hp:p<N) (hq:q<N) (h:i*N+p=j*N+q):p=q:=by grind [Nat.mul_comm,Nat.mul_add_mod,Nat.mod_eq_of_lt]
theorem wt {E:Nat} {nn:Int} {l:List (T.den E)} {h:Option (Int×Nat)} {i:Nat} {x:T.den E} {p:Nat} (hx:l[i]? =some x) (hp:p<T.sz E) (hf: ∀ k,(T.ks E)[p]? =some k->PU k=true) (hh: ∀ j o,h=some (j,o)->o ≠ p/\o<T.sz E):
 (Bk T E nn l h)[i*T.sz E+p]? =(T.enc E x)[p]? :=by
 have base:(AC T E nn 0 l)[i*T.sz E+p]? =(T.enc E x)[p]? :=by
  rw [J8 hx hp];split
  ·rw [Bj.aa2,fx hf,T.aa0]
  ·rfl
 unfold Bk;split
 ·exact base
 ·rename_i j o;rw [List.getElem?_set_ne]
  ·exact base
  ·intro e;obtain⟨h1,h2⟩:=hh j o rfl;exact h1 (px h2 hp e)
theorem wv {E:Nat} {nn:Int} {l:List (T.den E)} {h:Option (Int×Nat)} {i:Int} {x:T.den E} {off n:Nat} {ag:Bool} (hx:idx l i=some x) (ho:FH ag off n (T.sz E)=true) (hd:pw T E off n h=true) (hb: ∀ j o,h=some (j,o)->o<T.sz E):
 i.toNat*T.sz E+off+n<=(Bk T E nn l h).length /\toV ag (i.toNat*T.sz E+off) n (Bk T E nn l h)=(CZ (T:=T) ag off n (iN E x)).toV :=by
 obtain⟨h1,h2⟩:=CL ho;have hi:=OD hx;have hxx:l[i.toNat]? =some x:=by have:=lB hx;grind
 have hle:i.toNat*T.sz E+T.sz E<=l.length*T.sz E:=by have:(i.toNat+1)*T.sz E<=l.length*T.sz E:=Nat.mul_le_mul_right _ (by omega);grind
 simp only [pw,and_eq_true,all_eq_true]at hd;have key: ∀ p,off<=p->p<off+n->(Bk T E nn l h)[i.toNat*T.sz E+p]? =(T.enc E x)[p]? :=fun p p1 p2=>by
  refine wt hxx (by omega) (fun k hk=>?_) (fun j o e=>⟨fun eo=>?_,hb j o e⟩)
  ·refine hd.1 k ?_;refine mem_of_getElem? (i:=p - off) ?_;grind
  grind [lK,Nat.ble_eq_true_of_le,Nat.blt]
 refine⟨by rw [Fn];omega,?_⟩;rw [Hf,Gx];unfold toV;have hlen:(Bk T E nn l h).length =l.length*T.sz E:=Fn _ _ _ _;split
 ·congr 1;apply ext_getElem?;grind
 grind
theorem tY {E:Nat} {nn:Int} {l:List (T.den E)} {i:Int} {x:T.den E} {off n:Nat} {ag:Bool} (hx:idx l i=some x) (hn:nn<=i) (ho:FH ag off n (T.sz E)=true):
 i.toNat*T.sz E+off+n<=(Bk T E nn l none).length /\toV ag (i.toNat*T.sz E+off) n (Bk T E nn l none)=(CZ (T:=T) ag off n (iN E x)).toV :=by
 obtain⟨h1,h2⟩:=CL ho;have hi:=OD hx;have hxx:l[i.toNat]? =some x:=by have:=lB hx;grind
 have hle:i.toNat*T.sz E+T.sz E<=l.length*T.sz E:=by have:(i.toNat+1)*T.sz E<=l.length*T.sz E:=Nat.mul_le_mul_right _ (by omega);grind
 have key: ∀ p,off<=p->p<off+n->(Bk T E nn l none)[i.toNat*T.sz E+p]? =(T.enc E x)[p]? :=fun p p1 p2=>by show (AC T E nn 0 l)[_]? =_;rw [J8 hxx (by omega),if_neg (by omega)]
 refine⟨by rw [Fn];omega,?_⟩;rw [Hf,Gx];unfold toV;have hlen:(Bk T E nn l none).length =l.length*T.sz E:=Fn _ _ _ _;split
 ·congr 1;apply ext_getElem?;grind
 grind
def ww (N:Nat):Option (Int×Nat)->Bool
 | none=>true
 | some (_,o)=>Nat.blt o N
def lL (P:Program) (t:TypeId) (key:List GL) (st:Ai T) (v:DV T):M (DV T):=
 match KP P t with
 | none=> .no
 | some (ag,n)=>match v with
   | .c (.c (.ptr id off))=>match K2 st id with
     | some cs=>match FH ag off n cs.length with
       | true=> .ret (CZ ag off n cs)
       | false=> .no
     | none=> .no
   | .c (.ip E _ _ x off)=>match FH ag off n (T.sz E)with
     | true=> .ret (CZ ag off n (iN E x))
     | false=> .no
   | .c (.rp id N i off)=>match DO st id with
     | some ⟨E,l⟩=>match Nat.beq (T.sz E) N&&FH ag off n N with
       | true=> .opt (gk key (idx l i)) fun x=> .ret (CZ ag off n (iN E x))
       | false=> .no
     | none=>match LV st id with
       | some ⟨E,(nn,l,h)⟩=>match Nat.beq (T.sz E) N&&(FH ag off n N&&(pw T E off n h&&ww (T.sz E) h))with
         | true=> .opt (gk key (idx l i)) fun x=> .ret (CZ ag off n (iN E x))
         | false=>match Nat.beq (T.sz E) N&&(FH ag off n N&&h.isNone)with
           | true=> .opt (gk key (idx l i)) fun x=> .opt (gk key (n_ (nn<=i))) fun _=> .ret (CZ ag off n (iN E x))
           | false=> .no
       | none=> .no
   | .c (.ap id base m E i off)=>match K2 st id with
     | some cs=>match Lv E m (cs.drop base),FH ag off n (T.sz E)&&Nat.ble base cs.length with
       | some l,true=> .opt (gk key (idx l i)) fun x=> .ret (CZ ag off n (iN E x))
       | _,_=> .no
     | none=> .no
   | _=> .no
def Rd (H:Aw T) (P:Program) (st:Ai T) (key:List GL) (op:Op) (v:DV T):Prop:=
 Bc key=true->v.ok H st.nx/\(DU P st.toSt (Bc key) op).1/\(DU P st.toSt (Bc key) op).2=v.toV
theorem lM {E:Nat} {l:List (T.den E)} {i:Int} {x:T.den E} {off n:Nat} {ag:Bool} (hx:idx l i=some x) (ho:FH ag off n (T.sz E)=true):
 i.toNat*T.sz E+off+n<=(l.flatMap (T.enc E)).length /\toV ag (i.toNat*T.sz E+off) n (l.flatMap (T.enc E))=(CZ (T:=T) ag off n (iN E x)).toV :=by
 obtain⟨h1,h2⟩:=CL ho;refine rK hx (fun y=>AV E y) rfl h1 h2 ?_;rw [Hf,Gx]
theorem ZH {H:Aw T} {P:Program} {t:TypeId} {key:List GL} {st:Ai T} {v:DV T} (hw:AJ H st) (hv:Bc key=true->v.ok H st.nx):
 Yl (lL P t key st v) (fun r=>Bc key=true->r.ok H st.nx/\(DM P t st.toSt v.toV).1/\(DM P t st.toSt v.toV).2=r.toV):=by
 unfold lL;split
 ·exact Yl.no
 ·rename_i ag n ht;split
  ·rename_i id off;split
   ·rename_i cs hb;split
    ·rename_i ho;obtain⟨h1,h2⟩:=CL ho;refine Yl.ret fun _=>⟨If _ _ _ (Sq hw hb),?_⟩;simp only [DV.toV,DC.toC,DM,ht,(Hg hb).2.1];rw [Hf,AM];grind
    ·exact Yl.no
   ·exact Yl.no
  ·rename_i E l i x off;split
   ·rename_i ho;refine Yl.ret fun hc=>⟨If _ _ _ (MT E x),?_⟩;have hx:=hv hc;simp only [DV.ok,DC.ok]at hx;obtain⟨a,b⟩:=lM (T:=T) hx ho;simp only [DV.toV,DC.toC,DM,ht];exact⟨⟨a,(CL ho).2⟩,b⟩
   ·exact Yl.no
  ·rename_i id N i off;split
   ·rename_i E l hb;split
    ·rename_i ho;simp only [and_eq_true,beq_eq]at ho;obtain⟨e,ho⟩:=ho;subst e;refine Yl.opt fun x hx=>Yl.ret fun hc=>⟨If _ _ _ (MT E x),?_⟩;obtain⟨a,b⟩:=lM (T:=T) (So hx hc) ho;simp only [DV.toV,DC.toC,DM,ht,(BU hb).2.1];exact⟨⟨a,(CL ho).2⟩,b⟩
    ·exact Yl.no
   ·split
    ·rename_i E nn l h hr;split
     ·rename_i ho;simp only [and_eq_true,beq_eq]at ho;obtain⟨e,ho,hd,hi⟩:=ho;subst e;refine Yl.opt fun x hx=>Yl.ret fun hc=>⟨If _ _ _ (MT E x),?_⟩;obtain⟨a,b⟩:=wv (T:=T) (nn:=nn) (So hx hc) ho hd (fun j o e=>by simp_all [ww]);simp only [DV.toV,DC.toC,DM,ht,(CA hr).2.1];exact⟨⟨a,(CL ho).2⟩,b⟩
     ·split
      ·rename_i ho;simp only [and_eq_true,beq_eq,Option.isNone_iff_eq_none]at ho;obtain⟨e,ho,hn⟩:=ho;subst e hn;refine Yl.opt fun x hx=>Yl.opt fun u hu=>Yl.ret fun hc=>⟨If _ _ _ (MT E x),?_⟩;obtain⟨a,b⟩:=tY (T:=T) (nn:=nn) (So hx hc) (Cz (So hu hc)) ho;simp only [DV.toV,DC.toC,DM,ht,(CA hr).2.1];exact⟨⟨a,(CL ho).2⟩,b⟩
      ·exact Yl.no
    ·exact Yl.no
  ·rename_i id base m E i off;split
   ·rename_i cs hb;split
    ·rename_i l hl ho;refine Yl.opt fun x hx=>Yl.ret fun hc=>⟨If _ _ _ (MT E x),?_⟩;simp only [and_eq_true,ble_eq]at ho;obtain⟨ho,apI⟩:=ho;obtain⟨h1,h2⟩:=CL ho;obtain⟨hlen,r,hr⟩:=Ei hl;rw [F3]at hr;have:=iK (cs:=As cs) (pre:=(As cs).take base) (post:=r) (base:=base) (e:=T.enc E) (N:=T.sz E) (o:=off) (n:=n) (ag:=ag) (v:=(CZ (T:=T) ag off n (iN E x)).toV) (off:=base+i.toNat*T.sz E+off)
      (by grind [List.take_append_drop]) (by grind [AM]) (So hx hc) (fun y=>AV E y) (by omega) h1 h2 (by rw [Hf,Gx])
     simp_all [DV.toV,DC.toC,DM,Hg]
    ·exact Yl.no
   ·exact Yl.no
  ·exact Yl.no
end Go.PL
namespace Go.PL
open Go Go.RowKit
variable {T:Bj}
def ZI (st:Ai T):Operand->Nat
 | .tmp t=>match Nat.blt t st.m with
   | true=>Zv st.tm t
   | false=>0
 | _=>0
def UU (key:List GL) (tc:Nat) (w p:Bool):List GL:=match tc with
 | 0=>key
 | t+1=>⟨t,w,p==w⟩::key
def UV:DV T->Option (List GL×Bool)
 | .c (.k .bool q)=>some ([],q)
 | .g k (.c (.k .bool q))=>some (k,q)
 | _=>none
def wx (key:List GL) (tc:Nat) (p:Bool) (a b:DV T):M (DV T):=
 match UV a,UV b with
 | some (ka,q),some (kb,r)=>match Q6 ka (UU key tc true p),Q6 kb (UU key tc false p)with
   | true,true=> .ret (.c (.k .bool (if p then q else r)))
   | _,_=> .no
 | _,_=> .no
def ZJ (op:BinOp) (k:IntKind) (a b:Int):DC T:=
 match op with
 | .add => .k (.int k) (k.wrap (a+b))
 | .sub => .k (.int k) (k.wrap (a - b))
 | .mul => .k (.int k) (k.wrap (a*b))
 | .quo => .k (.int k) (k.wrap (a.tdiv b))
 | .rem => .k (.int k) (a.tmod b)
 | .and => .k (.int k) (Fk k a b)
 | .or => .k (.int k) (bOr k a b)
 | .xor => .k (.int k) (R4 k a b)
 | .andNot => .k (.int k) (ii k a b)
 | .shl => .k (.int k) (k.wrap (a*2 ^ (min b.toNat k.bits)))
 | .shr => .k (.int k) (a.fdiv (2 ^ (min b.toNat k.bits)))
 | .eql => .k .bool (a==b)
 | .neq => .k .bool (a != b)
 | .lss => .k .bool (decide (a<b))
 | .leq => .k .bool (decide (a<=b))
 | .gtr => .k .bool (decide (b<a))
 | .geq => .k .bool (decide (b<=a))
theorem wy (op:BinOp) (k:IntKind) (a b:Int):(ZJ (T:=T) op k a b).toC =(KQ op k a b).2/\(ZJ (T:=T) op k a b).ok :=by cases op<;>exact⟨rfl,by simp only [ZJ,DC.ok]⟩
def Afv (op:BinOp) (a b:List UInt8):Option (DC T):=
 match op with
 | .eql =>some (.k .bool (a==b))
 | .neq =>some (.k .bool (a != b))
 | .lss =>some (.k .bool (Op.bytesLess a b))
 | .leq =>some (.k .bool (Op.bytesLess a b||a==b))
 | .gtr =>some (.k .bool (!(Op.bytesLess a b||a==b)))
 | .geq =>some (.k .bool (!Op.bytesLess a b))
 | _=>none
def lN (op:BinOp) (b:Bool):Option (DC T):=
 match op with
 | .eql =>some (.k .bool b)
 | .neq =>some (.k .bool !b)
 | _=>none
def Ts {α:Type} (b:Bool) (m:M α):M α:=match b with
 | true=>m
 | false=> .no
theorem Yl.Ts {α:Type} {Φ:α->Prop} {b:Bool} {m:M α} (h:b=true->Yl m Φ):Yl (PL.Ts b m) Φ:=by
 cases b with
 | true=>exact h rfl
 | false=>exact Yl.no
def wz:Operand->Bool
 | .const (.int _ n)=> !(decide (n=0))
 | _=>false
def wA:Operand->Bool
 | .const (.int _ n)=>decide (0<=n)
 | _=>false
def nd (lit:Bool) (key:List GL) (p:Prop) [Decidable p] (v:DV T):M (DV T):=match lit with
 | true=> .ret v
 | false=> .opt (gk key (n_ p)) fun _=> .ret v
def wB (op:BinOp) (key:List GL) (nz nn:Bool) (k:IntKind) (a b:Int):M (DV T):=
 match op with
 | .quo =>nd nz key (b ≠ 0) (.c (ZJ .quo k a b))
 | .rem =>nd nz key (b ≠ 0) (.c (ZJ .rem k a b))
 | .shl =>nd nn key (0<=b) (.c (ZJ .shl k a b))
 | .shr =>nd nn key (0<=b) (.c (ZJ .shr k a b))
 | op=> .ret (.c (ZJ op k a b))
def Ab9 (op:BinOp) (key:List GL) (a b:List UInt8):M (DV T):=
 match op with
 | .add => .opt (gk key (cat a b)) fun s=> .ret (.c (.k .str s))
 | op=>match Afv op a b with
   | some v=> .ret (.c v)
   | none=> .no
def Aca (op:BinOp) (a b:Bool):M (DV T):=
 match op with
 | .eql => .ret (.c (.k .bool (a==b)))
 | .neq => .ret (.c (.k .bool (a != b)))
 | _=> .no
def Add (P:Program) (op:BinOp) (t:TypeId) (key:List GL) (kc nz nn:Bool) (x y:DV T):M (DV T):=
 match x,y with
 | .c (.k (.int k) a), .c (.k (.int k') b)=>Ts (kEq op k k') (wB op key nz nn k a b)
 | .c (.k .str a), .c (.k .str b)=>Ab9 op key a b
 | .c (.k .bool a), .c (.k .bool b)=>Ts (YU P t) (Aca op a b)
 | .c (.c .aas), .c (.c .aas)=>Ts (kc&&KR P t)<|match lN op true with
   | some v=> .ret (.c v)
   | none=> .no
 | .c (.c .held), .c (.c .aas)=>Ts (KR P t)<|match lN op false with
   | some v=> .ret (.c v)
   | none=> .no
 | .c (.c (.ptr _ _)), .c (.c .acg)=>Ts (LO P t)<|match lN op false with
   | some v=> .ret (.c v)
   | none=> .no
 | .c (.c .acg), .c (.c .acg)=>Ts (LO P t)<|match lN op true with
   | some v=> .ret (.c v)
   | none=> .no
 | .c (.rp _ _ _ _), .c (.c .acg)=>Ts (LO P t)<|match lN op false with
   | some v=> .ret (.c v)
   | none=> .no
 | .c (.ip _ _ _ _ _), .c (.c .acg)=>Ts (LO P t)<|match lN op false with
   | some v=> .ret (.c v)
   | none=> .no
 | .agg cs, .agg ds=>match vx false t cs,vx false t ds with
   | some x,some y=>Ts (oS P t (As cs) (As ds))<|match op with
     | .eql => .ret (.c (.k .bool (T.beq t x y)))
     | .neq => .ret (.c (.k .bool !(T.beq t x y)))
     | _=> .no
   | _,_=> .no
 | _,_=> .no
section
variable {H:Aw T} {P:Program} {st:Ai T} {key:List GL}
theorem fy (hw:AJ H st) (hk:Fm H st.nx key) {c:Operand} {p:Bool} (hp:st.arg key c=some (.c (.k .bool p))) (w:Bool):Fm H st.nx (UU key (ZI st c) w p):=by
 unfold UU;split
 ·exact hk
 ·rename_i t ht;intro l hl;rcases mem_cons.1 hl with rfl | hl
  ·unfold ZI at ht;split at ht
   ·rename_i i;split at ht
    ·rename_i hb;obtain⟨h1,h2⟩:=Zw hw.tm ht;refine⟨h1,?_⟩;show (p==w)=(iM (H.v t)==w);rw [h2];have e:st.ev (.tmp i)=lk st.tm i:=by show st.get i=_;unfold Ai.get;rw [hb]
     unfold Ai.arg at hp;rw [e]at hp;split at hp
     ·rename_i k v hv;split at hp
      ·injection hp with hp;subst hp;rw [hv];rfl
      ·cases hp
     ·injection hp with hp;rw [hp];rfl
    ·cases ht
   ·cases ht
  ·exact hk l hl
theorem WH {tc:Nat} {w p:Bool} (hc:Bc key=true) (hp:p=w):Bc (UU key tc w p)=true:=by
 unfold UU;split
 ·exact hc
 ·refine J3.2 fun l hl=>?_;rcases mem_cons.1 hl with rfl | hl
  all_goals grind [J3]
theorem WI {v:DV T} {k:List GL} {q:Bool} (h:UV v=some (k,q)):QS v.toV=some (Bc k,q):=by
 unfold UV at h;split at h
 ·injection h with h;injection h with h1 h2;subst h1 h2;rfl
 ·injection h with h;injection h with h1 h2;subst h1 h2;rfl
 ·cases h
theorem fA {v:DV T} {k:List GL} {q:Bool} (h:UV v=some (k,q)) {nx:Nat} (hv:v.ok H nx):Fm H nx k:=by
 unfold UV at h;split at h
 ·injection h with h;injection h with h1 h2;subst h1 h2;intro l hl;cases hl
 ·injection h with h;injection h with h1 h2;subst h1 h2;simp only [DV.ok]at hv;exact hv.1
 ·cases h
theorem wC (hw:AJ H st) (hk:Fm H st.nx key) {c a b:Operand} {p:Bool} (hp:st.arg key c=some (.c (.k .bool p))):
 Yl (wx key (ZI st c) p (st.ev a) (st.ev b)) (fun v=>Bc key=true->v.ok H st.nx/\(YY p (st.toSt.ev a) (st.toSt.ev b)).1/\(YY p (st.toSt.ev a) (st.toSt.ev b)).2=v.toV):=by
 unfold wx;split
 ·rename_i ka q kb r h1 h2;split
  ·rename_i s1 s2;refine Yl.ret fun hc=>⟨by simp only [DV.ok,DC.ok],?_⟩;unfold YY;rw [st.abE,st.abE,WI h1,WI h2];refine⟨⟨fun e=>OL s1 (fA h1 (Ai.ak9 hw a)) (fy hw hk hp true) (WH hc e),fun e=>OL s2 (fA h2 (Ai.ak9 hw b)) (fy hw hk hp false) (WH hc e)⟩,?_⟩;rfl
  ·exact Yl.no
 ·exact Yl.no
theorem Js {op:BinOp} {b:Bool} {v:DC T} (h:lN op b=some v) {s:Prop} (hs:s):(Ou op b s).1/\(Ou op b s).2= .c v.toC/\v.ok:=by
 unfold lN at h;split at h
 ·injection h with h;subst h;exact⟨hs,rfl,by simp only [DC.ok]⟩
 ·injection h with h;subst h;exact⟨hs,rfl,by simp only [DC.ok]⟩
 ·cases h
theorem rT {lit:Bool} {p:Prop} [Decidable p] {v:DV T} (hl:lit=true->p):Yl (nd lit key p v) (fun r=>Bc key=true->p/\r=v):=by
 unfold nd;split
 ·exact Yl.ret (by grind)
 ·exact Yl.opt fun u hu=>Yl.ret fun hc=>by have:=Cz (So hu hc);grind
theorem wD {op:BinOp} {nz nn:Bool} {k:IntKind} {a b:Int} (h1:nz=true->b ≠ 0) (h2:nn=true->0<=b):Yl (wB (T:=T) op key nz nn k a b) (fun v=>Bc key=true->(KQ op k a b).1/\v= .c (ZJ op k a b)):=by
 unfold wB;split
 ·exact rT h1
 ·exact rT h1
 ·exact rT h2
 ·exact rT h2
 ·refine Yl.ret fun hc=>⟨?_,rfl⟩;cases op<;>first | trivial | simp_all
def Acb (nz nn:Bool) (y:DV T):Prop:= ∀ (k:IntKind) (b:Int),y= .c (.k (.int k) b)->(nz=true->b ≠ 0)/\(nn=true->0<=b)
theorem zV {op:BinOp} {t:TypeId} {kc nz nn:Bool} {x y:DV T} (axq:Acb nz nn y):
 Yl (Add P op t key kc nz nn x y) (fun v=>Bc key=true->v.ok H st.nx/\(MO P op t kc x.toV y.toV).1/\(MO P op t kc x.toV y.toV).2=v.toV):=by
 unfold Add;split
 ·rename_i k a k' b;refine Yl.Ts fun hb=>?_;have hb':=lj hb;have aDG:(KQ op k a b).1->(DV.c (ZJ (T:=T) op k a b)).ok H st.nx/\(MO P op t kc (DV.c (T:=T) (.k (.int k) a)).toV (DV.c (T:=T) (.k (.int k') b)).toV).1/\(MO P op t kc (DV.c (T:=T) (.k (.int k) a)).toV (DV.c (T:=T) (.k (.int k') b)).toV).2=(DV.c (ZJ (T:=T) op k a b)).toV :=by intro hi;obtain⟨q1,q2⟩:=wy (T:=T) op k a b;simp_all [DV.ok,DV.toV,DC.toC,Bz,MO,Xt]
  obtain⟨l1,l2⟩:=axq k' b rfl;exact(wD l1 l2).mono (by grind)
 ·rename_i a b;unfold Ab9;split
  ·refine Yl.opt fun s hs=>Yl.ret fun hc=>?_;have:=So hs hc;simp only [DV.ok,DC.ok,DV.toV,DC.toC,Bz,MO,Xt,LM,true_and];exact⟨Ab3 this,by rw [Ab4 this]⟩
  ·rename_i hne;split
   ·rename_i v hv;refine Yl.ret fun hc=>?_;unfold Afv at hv;split at hv<;>first
     | (injection hv with hv;subst hv;simp only [DV.ok,DC.ok,DV.toV,DC.toC,Bz,MO,Xt,LM,and_self])
     | grind
   ·exact Yl.no
 ·rename_i a b;refine Yl.Ts fun hb=>?_;unfold Aca;split
  ·exact Yl.ret fun _=>⟨by simp only [DV.ok,DC.ok],hb,rfl⟩
  ·exact Yl.ret fun _=>⟨by simp only [DV.ok,DC.ok],hb,rfl⟩
  ·exact Yl.no
 ·refine Yl.Ts fun hb=>?_;split
  ·rename_i v hv;refine Yl.ret fun _=>?_;simp only [and_eq_true]at hb;obtain⟨a,b,c⟩:=Js (s:=kc=true/\KR P t=true) hv hb;exact⟨by grind [DV.ok],a,by simp only [DV.toV];exact b⟩
  ·exact Yl.no
 ·refine Yl.Ts fun hb=>?_;split
  ·rename_i v hv;refine Yl.ret fun _=>?_;obtain⟨a,b,c⟩:=Js (s:=KR P t=true) hv hb;exact⟨by grind [DV.ok],a,by simp only [DV.toV];exact b⟩
  ·exact Yl.no
 ·refine Yl.Ts fun hb=>?_;split
  ·rename_i v hv;refine Yl.ret fun _=>?_;obtain⟨a,b,c⟩:=Js (s:=LO P t=true) hv hb;exact⟨by grind [DV.ok],a,by simp only [DV.toV];exact b⟩
  ·exact Yl.no
 ·refine Yl.Ts fun hb=>?_;split
  ·rename_i v hv;refine Yl.ret fun _=>?_;obtain⟨a,b,c⟩:=Js (s:=LO P t=true) hv hb;exact⟨by grind [DV.ok],a,by simp only [DV.toV];exact b⟩
  ·exact Yl.no
 ·refine Yl.Ts fun hb=>?_;split
  ·rename_i v hv;refine Yl.ret fun _=>?_;obtain⟨a,b,c⟩:=Js (s:=LO P t=true) hv hb;exact⟨by grind [DV.ok],a,by simp only [DV.toV];exact b⟩
  ·exact Yl.no
 ·refine Yl.Ts fun hb=>?_;split
  ·rename_i v hv;refine Yl.ret fun _=>?_;obtain⟨a,b,c⟩:=Js (s:=LO P t=true) hv hb;exact⟨by grind [DV.ok],a,by simp only [DV.toV];exact b⟩
  ·exact Yl.no
 ·rename_i cs ds;split
  ·rename_i x y h1 h2;refine Yl.Ts fun hb=>?_;have e:T.beq t x y=BT (As cs) (As ds):=by rw [T.ah4,(Ie h1).2 rfl,(Ie h2).2 rfl]
   split
   ·refine Yl.ret fun _=>⟨by simp only [DV.ok,DC.ok],?_⟩;simp_all [DV.toV,DC.toC,Bz,MO,kZ]
   ·refine Yl.ret fun _=>⟨by simp only [DV.ok,DC.ok],?_⟩;simp_all [DV.toV,DC.toC,Bz,MO,kZ]
   ·exact Yl.no
  ·exact Yl.no
 ·exact Yl.no
end
end Go.PL
namespace Go.PL
open Go Go.RowKit
variable {T:Bj}
def dun (op:UnOp):DV T->M (DV T)
 | .c (.k (.int k) n)=>match op with
   | .neg => .ret (.c (.k (.int k) (k.wrap (0 - (show Int from n)))))
   | .xor => .ret (.c (.k (.int k) (R4 k (if k.signed then -1 else k.max) n)))
   | _=> .no
 | .c (.k .bool b)=>match op with
   | .not => .ret (.c (.k .bool !(show Bool from b)))
   | _=> .no
 | _=> .no
def wE (P:Program) (src dst:TypeId):DV T->M (DV T)
 | .c (.k (.int _) n)=>match kK P dst with
   | some k=>Ts (zs P src) (.ret (.c (.k (.int k) (k.wrap n))))
   | none=> .no
 | .c (.k .str s)=>Ts (Eb P src&&Eb P dst) (.ret (.c (.k .str s)))
 | _=> .no
def zW (st:Ai T) (key:List GL):Option Operand->Option (Option Int)
 | none=>some none
 | some x=>match st.arg key x with
   | some (.c (.k (.int _) n))=>some (some n)
   | _=>none
def Acc (key:List GL) (s:List UInt8) (lo hi:Option Int):M (DV T):=
 .opt (gk key (Zq s (lo.getD 0) (hi.getD s.length))) fun r=> .ret (.c (.k .str r))
def Acd (key:List GL) (E:Nat) (l:List (T.den E)) (lo hi:Option Int):M (DV T):=
 .opt (gk key (pq l (lo.getD 0) (hi.getD l.length))) fun r=> .ret (.c (.k (.u_ E) r))
def Ade (P:Program) (t:TypeId) (key:List GL) (x:DV T) (lo hi:Option Int):M (DV T):=
 match x with
 | .c (.k .str s)=>Ts (Eb P t) (Acc key s lo hi)
 | .c (.k (.u_ E) l)=>match DG P t with
   | some (_,n)=>Ts (Nat.beq n (T.sz E)) (Acd key E l lo hi)
   | none=> .no
 | _=> .no
def wF (P:Program) (s:TypeId) (f:Nat) (x:DV T):M (DV T):=
 match vD P s f with
 | some (o,_,n)=>Ts (Nat.blt 0 n)<|match x with
   | .c (.c (.ptr id off))=> .ret (.c (.c (.ptr id (off+o))))
   | .c (.ip E l i x off)=> .ret (.c (.ip E l i x (off+o)))
   | .c (.rp id N i off)=> .ret (.c (.rp id N i (off+o)))
   | .c (.ap id base m E i off)=> .ret (.c (.ap id base m E i (off+o)))
   | _=> .no
 | none=> .no
def py (P:Program) (t:TypeId) (f:Nat) (x:DV T):M (DV T):=
 match x with
 | .agg cs=>match vD P t f with
   | some (o,ag,n)=>Ts (FH ag o n cs.length) (.ret (CZ ag o n cs))
   | none=> .no
 | _=> .no
def lO (key:List GL) (E:Nat) (l:List (T.den E)) (i:Int) (f:T.den E->DV T):M (DV T):= .opt (gk key (idx l i)) fun x=> .ret (f x)
def Adf (P:Program) (t:TypeId) (key:List GL) (st:Ai T) (x y:DV T):M (DV T):=
 match y with
 | .c (.k (.int _) i)=>match x with
   | .c (.k (.u_ E) l)=>match DG P t with
     | some (_,n)=>Ts (Nat.beq n (T.sz E)) (lO key E l i fun x=> .c (.ip E l i x 0))
     | none=> .no
   | .c (.c (.h_ id))=>match DG P t,rS st id with
     | some (_,n),some ⟨E,l⟩=>lO key E l i fun _=> .c (.rp id n i 0)
     | _,_=> .no
   | .c (.c (.ptr id off))=>match Gq P t,K2 st id with
     | some (k,e,n),some cs=>match Lv e k (cs.drop off)with
       | some l=>Ts (Nat.beq n (T.sz e)&&Nat.ble off cs.length) (lO key e l i fun _=> .c (.ap id off k e i 0))
       | none=> .no
     | _,_=> .no
   | _=> .no
 | _=> .no
def Ace (key:List GL) (s:List UInt8) (i:Int):M (DV T):= .opt (gk key (IH s i)) fun r=> .ret (.c (.k (.int .u8) r))
def wG (P:Program) (t:TypeId) (key:List GL) (x y:DV T):M (DV T):=
 match y with
 | .c (.k (.int _) i)=>match x with
   | .c (.k .str s)=>Ts (Eb P t) (Ace key s i)
   | .agg cs=>match Gq P t with
     | some (k,e,n)=>match KP P e,Lv e k cs with
       | some (ag,_),some l=>Ts (Nat.beq n (T.sz e)&&(Nat.blt 0 n&&Nat.beq cs.length (k*n))) (lO key e l i fun x=>CZ ag 0 n (iN e x))
       | _,_=> .no
     | none=> .no
   | _=> .no
 | _=> .no
def Adg (i:Nat):DV T->M (DV T)
 | .tup vs=>Ts (Nat.blt i vs.length) (.ret (vs.getD i .u))
 | _=> .no
def wH:DV T->M (DV T)
 | .c (.c (.ptr id off))=> .ret (.c (.c (.ptr id off)))
 | .c (.c (.fn f))=> .ret (.c (.c (.fn f)))
 | .c (.ip E l i x off)=> .ret (.c (.ip E l i x off))
 | .c (.rp id N i off)=> .ret (.c (.rp id N i off))
 | .c (.ap id b m E i off)=> .ret (.c (.ap id b m E i off))
 | .c (.clo b f cs)=> .ret (.c (.clo b f cs))
 | _=> .no
def Adh (P:Program) (t:TypeId) (st:Ai T) (x:DV T):M (DV T):=
 match x with
 | .c (.k .str s)=>Ts (Eb P t) (.ret (.c (.k (.int .i64) ((List.length (α:=UInt8) s:Nat):Int))))
 | .c (.k (.u_ E) l)=>Ts (EI P t) (.ret (.c (.k (.int .i64) ((List.length (α:=T.den E) l:Nat):Int))))
 | .c (.c (.h_ id))=>match rS st id with
   | some ⟨_,l⟩=>Ts (EI P t) (.ret (.c (.k (.int .i64) ((l.length:Nat):Int))))
   | none=> .no
 | .c (.bs _ _ _ n)=>Ts (EI P t) (.ret (.c (.k (.int .i64) ((n.toNat:Nat):Int))))
 | .agg _=>match Gq P t with
   | some (k,_,_)=> .ret (.c (.k (.int .i64) ((k:Nat):Int)))
   | none=> .no
 | .c (.c (.ptr _ _))=>match Gq P t with
   | some (k,_,_)=> .ret (.c (.k (.int .i64) ((k:Nat):Int)))
   | none=> .no
 | _=> .no
def IX (st:Ai T) (key:List GL):List Operand->Option (List (DV T))
 | []=>some []
 | x::xs=>match st.arg key x,IX st key xs with
   | some v,some vs=>some (v::vs)
   | _,_=>none
abbrev AhC (x:Int) (ys:List Int):Int:=ys.foldl (fun a y=>if y<a then y else a) x
abbrev AhD (x:Int) (ys:List Int):Int:=ys.foldl (fun a y=>if a<y then y else a) x
def Acf (k:IntKind) (x:Int) (ys:List Int):DV T:= .c (.k (.int k) (AhC x ys))
def Acg (k:IntKind) (x:Int) (ys:List Int):DV T:= .c (.k (.int k) (AhD x ys))
def ZK:List (DV T)->Option (IntKind×Int×List Int)
 | [.c (.k (.int k) x)]=>some (k,x,[])
 | .c (.k (.int k) x)::vs=>match ZK vs with
   | some (_,y,ys)=>some (k,x,y::ys)
   | none=>none
 | _=>none
def pz:Value->Option (DC T)
 | .int k n=>some (.k (.int k) n)
 | .bool b=>some (.k .bool b)
 | .string s=>some (.k .str s.data.toList)
 | v=>match Y5 v with
   | some c=>some (.c c)
   | none=>none
def Sr:List Value->Option (List (DC T))
 | []=>some []
 | v::vs=>match pz v,Sr vs with
   | some c,some cs=>some (c::cs)
   | _,_=>none
def ZL (P:Program) (t:TypeId):Option (List (DC T)):=
 match P.info? t with
 | some i=>match i.zero with
   | some z=>Sr z.cells.toList
   | none=>none
 | none=>none
def DV.cells:DV T->Option (List (DC T))
 | .c x=>some [x]
 | .agg cs=>some cs
 | _=>none
def WJ (place:Nat->Option (Nat×Nat)) (cells:List (DC T)):List (Nat×DV T)->Option (List (DC T))
 | []=>some cells
 | (i,v)::rest=>match place i,v.cells with
   | some (off,size),some cs=>match Nat.beq cs.length size&&Nat.ble (off+size) cells.length with
     | true=>WJ place (cells.take off++(cs++cells.drop (off+size))) rest
     | false=>none
   | _,_=>none
def J9 (st:Ai T) (key:List GL):List (Nat×Operand)->Option (List (Nat×DV T))
 | []=>some []
 | (i,x)::r=>match st.arg key x,J9 st key r with
   | some v,some vs=>some ((i,v)::vs)
   | _,_=>none
def fB:List (DV T)->Option (List (DC T))
 | []=>some []
 | .c x::vs=>match fB vs with
   | some cs=>some (x::cs)
   | none=>none
 | _=>none
def pA (P:Program) (t:TypeId) (key:List GL) (st:Ai T) (ps:List (Nat×Operand)):M (DV T):=
 match ZL P t,J9 st key ps with
 | some z,some vs=>match WJ (plc P t) z vs with
   | some cs=>Ts (rB P t) (.ret (.agg cs))
   | none=> .no
 | _,_=> .no
def LW (P:Program) (key:List GL) (st:Ai T):Op->M (DV T)
 | .move x=> .sm (st.arg key x)
 | .assign x=> .sm (st.arg key x)
 | .pick c a b=>match st.arg key c with
   | some (.c (.k .bool p))=>wx key (ZI st c) p (st.ev a) (st.ev b)
   | _=> .no
 | .load t x=>match st.arg key x with
   | some v=>lL P t key st v
   | none=> .no
 | .binOp op t x y _=>match st.arg key x,st.arg key y with
   | some u,some v=>Add P op t key (BJ x||BJ y) (wz y) (wA y) u v
   | _,_=> .no
 | .unOp op _ x=>match st.arg key x with
   | some v=>dun op v
   | none=> .no
 | .convert src dst x=>match st.arg key x with
   | some v=>wE P src dst v
   | none=> .no
 | .slice t x lo hi none=>match st.arg key x,zW st key lo,zW st key hi with
   | some v,some l,some h=>Ade P t key v l h
   | _,_,_=> .no
 | .fieldAddr s x f=>match st.arg key x with
   | some v=>wF P s f v
   | none=> .no
 | .field t x f=>match st.arg key x with
   | some v=>py P t f v
   | none=> .no
 | .indexAddr t x i=>match st.arg key x,st.arg key i with
   | some u,some v=>Adf P t key st u v
   | _,_=> .no
 | .index t x i=>match st.arg key x,st.arg key i with
   | some u,some v=>wG P t key u v
   | _,_=> .no
 | .extract x i=>match st.arg key x with
   | some v=>Adg i v
   | none=> .no
 | .nilCheck x=>match st.arg key x with
   | some v=>wH v
   | none=> .no
 | .build t ps=>pA P t key st ps.toList
 | .makeFunc (.func f) ⟨[]⟩ ahF=>match IX st key ahF.toList with
   | some vs=>match fB vs with
     | some cs=> .ret (.c (.clo false f cs))
     | none=> .no
   | none=> .no
 | .makeFunc (.func f) ⟨x::xs⟩ ⟨[]⟩=>match IX st key (x::xs)with
   | some vs=>match fB vs with
     | some cs=> .ret (.c (.clo true f cs))
     | none=> .no
   | none=> .no
 | .call c=>match c.callee with
   | .builtin b=>match b,c.args.toList,c.argTypes.toList with
     | .len,[x],[t]=>match st.arg key x with
       | some v=>Adh P t st v
       | none=> .no
     | .min,xs,_=>match IX st key xs with
       | some vs=>match ZK vs with
         | some (k,x,ys)=> .ret (Acf k x ys)
         | none=> .no
       | none=> .no
     | .max,xs,_=>match IX st key xs with
       | some vs=>match ZK vs with
         | some (k,x,ys)=> .ret (Acg k x ys)
         | none=> .no
       | none=> .no
     | _,_,_=> .no
   | _=> .no
 | _=> .no
end Go.PL
namespace Go.PL
open Go Go.RowKit
variable {T:Bj}
section
variable {H:Aw T} {P:Program} {st:Ai T} {key:List GL}
theorem Adi {op:UnOp} {x:DV T} {g:Prop} {nx:Nat}:Yl (dun op x) (fun v=>g->v.ok H nx/\(zi op x.toV).1/\(zi op x.toV).2=v.toV):=by
 unfold dun;split
 ·split
  ·exact Yl.ret fun _=>⟨by simp only [DV.ok,DC.ok],trivial,rfl⟩
  ·exact Yl.ret fun _=>⟨by simp only [DV.ok,DC.ok],trivial,rfl⟩
  ·exact Yl.no
 ·split
  ·exact Yl.ret fun _=>⟨by simp only [DV.ok,DC.ok],trivial,rfl⟩
  ·exact Yl.no
 ·exact Yl.no
theorem wI {s d:TypeId} {x:DV T} {g:Prop} {nx:Nat} {z:St}:Yl (wE P s d x) (fun v=>g->v.ok H nx/\(KT P s d z x.toV).1/\(KT P s d z x.toV).2=v.toV):=by
 unfold wE;split
 ·split
  ·rename_i k hk;refine Yl.Ts fun hb=>Yl.ret fun _=>⟨by simp only [DV.ok,DC.ok],?_⟩;simp_all [DV.toV,DC.toC,Bz,KT]
  ·exact Yl.no
 ·refine Yl.Ts fun hb=>Yl.ret fun _=>⟨by simp only [DV.ok,DC.ok],?_⟩;simp only [and_eq_true]at hb;exact⟨hb,rfl⟩
 ·exact Yl.no
theorem UW (hw:AJ H st) (hk:Fm H st.nx key) {x:Option Operand} {o:Option Int} (h:zW st key x=some o) (hc:Bc key=true):
 (C0 st.toSt (Bc key) x).1/\((o=none/\(C0 st.toSt (Bc key) x).2=none)\/ ∃ k n,o=some n/\(C0 st.toSt (Bc key) x).2=some (.c (.int k n))):=by
 unfold zW at h;split at h
 ·injection h with h;subst h;exact⟨trivial, .inl ⟨rfl,rfl⟩⟩
 ·split at h
  ·rename_i y k n hy;injection h with h;subst h;obtain⟨_,a,b⟩:=Ai.aee hw hk hy hc;exact⟨a, .inr ⟨k,n,rfl,by simp only [C0,b];rfl⟩⟩
  ·cases h
theorem rU {len:Nat} {lo hi:Option Int} {a b:Option V} (ha:(lo=none/\a=none)\/ ∃ k n,lo=some n/\a=some (.c (.int k n))) (hb:(hi=none/\b=none)\/ ∃ k n,hi=some n/\b=some (.c (.int k n))):
 dm len a b=some (lo.getD 0,hi.getD len):=by
 rcases ha with ⟨rfl,rfl⟩ | ⟨k,n,rfl,rfl⟩<;>rcases hb with ⟨rfl,rfl⟩ | ⟨k',n',rfl,rfl⟩<;>rfl
theorem wJ {s:List UInt8} {lo hi:Option Int}:Yl (Acc (T:=T) key s lo hi) (fun v=>Bc key=true-> ∃ r,Zq s (lo.getD 0) (hi.getD s.length)=some r/\v= .c (.k .str r)):=
 Yl.opt fun r hr=>Yl.ret fun hc=>⟨r,So hr hc,rfl⟩
theorem wK {E:Nat} {l:List (T.den E)} {lo hi:Option Int}:Yl (Acd key E l lo hi) (fun v=>Bc key=true-> ∃ r,pq l (lo.getD 0) (hi.getD l.length)=some r/\v= .c (.k (.u_ E) r)):=
 Yl.opt fun r hr=>Yl.ret fun hc=>⟨r,So hr hc,rfl⟩
theorem zX {t:TypeId} {x:DV T} {lo hi:Option Int} {a b:Option V} (ha:Bc key=true->(lo=none/\a=none)\/ ∃ k n,lo=some n/\a=some (.c (.int k n))) (hb:Bc key=true->(hi=none/\b=none)\/ ∃ k n,hi=some n/\b=some (.c (.int k n))) {nx:Nat}:
 Yl (Ade P t key x lo hi) (fun v=>Bc key=true->v.ok H nx/\(Hb P t x.toV a b).1/\(Hb P t x.toV a b).2=v.toV):=by
 unfold Ade;split
 ·rename_i s;refine Yl.Ts fun hs=>wJ.mono fun v hv hc=>?_;obtain⟨r,h1,rfl⟩:=hv hc;have hB:=rU (len:=List.length (α:=UInt8) s) (ha hc) (hb hc);refine⟨by simp only [DV.ok,DC.ok],?_⟩;simp only [DV.toV,DC.toC,Bz,Hb];grind [Ac6,Ac7]
 ·rename_i E l;split
  ·rename_i e n abP;refine Yl.Ts fun hs=>wK.mono fun v hv hc=>?_;obtain⟨r,h1,rfl⟩:=hv hc;have hn:n=T.sz E:=(by simp_all);subst hn;have hB:=rU (len:=List.length (α:=T.den E) l) (ha hc) (hb hc);refine⟨by simp only [DV.ok,DC.ok],?_⟩;simp only [DV.toV,DC.toC,Bz,Hb,abP];grind [wm,alP,AV,Ahy]
  ·exact Yl.no
 ·exact Yl.no
theorem wL {s:TypeId} {f:Nat} {x:DV T} {g:Prop} {nx:Nat} (hx:g->x.ok H nx):Yl (wF P s f x) (fun v=>g->v.ok H nx/\(B1 P s f x.toV).1/\(B1 P s f x.toV).2=v.toV):=by
 unfold wF;split
 ·rename_i o ag n hf;refine Yl.Ts fun hb=>?_;have hb':0<n:=by simp_all
  split
  ·refine Yl.ret fun _=>⟨by simp only [DV.ok,DC.ok],?_⟩;simp_all [DV.toV,DC.toC,B1]
  ·simp_all [Yl.ret,DV.ok,DC.ok,DV.toV,DC.toC,B1,add_assoc]
  ·refine Yl.ret fun hg=>⟨by simp only [DV.ok,DC.ok],?_⟩;simp_all [DV.toV,DC.toC,B1,add_assoc]
  ·refine Yl.ret fun hg=>⟨by simp only [DV.ok,DC.ok],?_⟩;simp_all [DV.toV,DC.toC,B1,add_assoc]
  ·exact Yl.no
 ·exact Yl.no
theorem tZ {t:TypeId} {f:Nat} {x:DV T} {g:Prop} {nx:Nat} (hx:g->x.ok H nx):Yl (py P t f x) (fun v=>g->v.ok H nx/\(JG P t f x.toV).1/\(JG P t f x.toV).2=v.toV):=by
 unfold py;split
 ·split
  ·rename_i cs o ag n hf;refine Yl.Ts fun hb=>Yl.ret fun hg=>⟨(by grind [If,DV.ok]),?_⟩;obtain⟨h1,h2⟩:=CL hb;simp_all [DV.toV,JG,Hf,AM]
  ·exact Yl.no
 ·exact Yl.no
theorem Ss {E:Nat} {l:List (T.den E)} {i:Int} {f:T.den E->DV T}:Yl (lO key E l i f) (fun v=>Bc key=true-> ∃ x,idx l i=some x/\v=f x):=
 Yl.opt fun r hr=>Yl.ret fun hc=>⟨r,So hr hc,rfl⟩
theorem zY {t:TypeId} {x y:DV T} {nx:Nat}:Yl (Adf P t key st x y) (fun v=>Bc key=true->v.ok H nx/\(Ch P t st.toSt x.toV y.toV).1/\(Ch P t st.toSt x.toV y.toV).2=v.toV):=by
 unfold Adf;split
 ·rename_i k i;split
  ·rename_i E l;split
   ·rename_i e n hs;refine Yl.Ts fun hn=>Ss.mono fun v hv hc=>?_;have hn:n=T.sz E:=(by simp_all);subst hn;obtain⟨x,h1,rfl⟩:=hv hc;refine⟨by grind [DV.ok,DC.ok],?_⟩;simp only [DV.toV,DC.toC,Bz,Ch,hs,add_zero];exact⟨OD h1,trivial⟩
   ·exact Yl.no
  ·rename_i id;split
   ·rename_i e n E l hs hb;refine Ss.mono fun v hv hc=>?_;obtain⟨x,h1,rfl⟩:=hv hc;refine⟨by simp only [DV.ok,DC.ok],?_⟩;obtain⟨ee,e1,e2⟩:=ZF hb;simp only [DV.toV,DC.toC,Bz,Ch,hs,e1,e2,add_zero];exact⟨OD h1,trivial⟩
   ·exact Yl.no
  ·rename_i id off;split
   ·rename_i m e n cs hs hb;split
    ·rename_i l hl;refine Yl.Ts fun hn=>Ss.mono fun v hv hc=>?_;simp only [and_eq_true,beq_eq,ble_eq]at hn;obtain⟨hn,_⟩:=hn;subst hn;obtain⟨x,h1,rfl⟩:=hv hc;refine⟨by simp only [DV.ok,DC.ok],?_⟩;simp only [DV.toV,DC.toC,Bz,Ch,hs,add_zero];have:=OD h1;rw [(Ei hl).1]at this;grind
    ·exact Yl.no
   ·exact Yl.no
  ·exact Yl.no
 ·exact Yl.no
theorem wM {s:List UInt8} {i:Int}:Yl (Ace (T:=T) key s i) (fun v=>Bc key=true-> ∃ r,IH s i=some r/\v= .c (.k (.int .u8) r)):=
 Yl.opt fun r hr=>Yl.ret fun hc=>⟨r,So hr hc,rfl⟩
theorem wN {t:TypeId} {x y:DV T} {nx:Nat}:Yl (wG P t key x y) (fun v=>Bc key=true->v.ok H nx/\(IG P t x.toV y.toV).1/\(IG P t x.toV y.toV).2=v.toV):=by
 unfold wG;split
 ·rename_i k i;split
  ·rename_i s;refine Yl.Ts fun hs=>wM.mono fun v hv hc=>?_;obtain⟨r,h1,rfl⟩:=hv hc;grind [DV.ok,DC.ok,DV.toV,DC.toC,Bz,IG,Ac4,Ac5]
  ·rename_i cs;split
   ·rename_i m e n hs;split
    ·rename_i ag n' l ht hl;refine Yl.Ts fun hn=>Ss.mono fun v hv hc=>?_;simp only [and_eq_true,beq_eq,blt_eq]at hn;obtain⟨hn,h0,hlen⟩:=hn;subst hn;obtain⟨x,h1,rfl⟩:=hv hc;obtain⟨hl1,r,hl2⟩:=Ei hl;have:=iK (cs:=As cs) (pre:=[]) (post:=r) (base:=0) (e:=T.enc e) (N:=T.sz e) (o:=0) (n:=T.sz e) (ag:=ag) (v:=(CZ (T:=T) ag 0 (T.sz e) (iN e x)).toV) (off:=i.toNat*T.sz e)
      (by grind) rfl h1 (fun y=>AV e y) (by omega) (by omega) (.inr h0) (by rw [Hf,Gx])
     grind [If,MT,OD,DV.toV,DC.toC,Bz,IG]
    ·exact Yl.no
   ·exact Yl.no
  ·exact Yl.no
 ·exact Yl.no
theorem fC: ∀ (vs:List (DV T)) (i:Nat),(Bf vs).getD i .undef =(vs.getD i .u).toV
 | [],_=>by simp [Bf,DV.toV]
 | v::vs,0=>by simp [Bf]
 | v::vs,i+1=>by simpa [Bf] using fC vs i
theorem Ig (vs:List (DV T)):(Bf vs).length =vs.length:=by simp [OH]
theorem zZ {i:Nat} {x:DV T} {g:Prop} {nx:Nat} (hx:g->x.ok H nx):Yl (Adg i x) (fun v=>g->v.ok H nx/\(oP i x.toV).1/\(oP i x.toV).2=v.toV):=by
 unfold Adg;split
 ·rename_i vs;refine Yl.Ts fun hb=>Yl.ret fun hg=>⟨?_,?_⟩
  ·grind [DV.ok,OI]
  ·simp only [DV.toV,oP,fC,Ig];simp_all
 ·exact Yl.no
theorem wO {x:DV T} {g:Prop} {nx:Nat} (hx:g->x.ok H nx):Yl (wH x) (fun v=>g->v.ok H nx/\(dn x.toV).1/\(dn x.toV).2=v.toV):=by
 unfold wH;split
 ·exact Yl.ret fun hg=>⟨hx hg,trivial,rfl⟩
 ·exact Yl.ret fun hg=>⟨hx hg,trivial,rfl⟩
 ·grind [Yl.ret,DV.toV,DC.toC,dn]
 ·grind [Yl.ret,DV.toV,DC.toC,dn]
 ·grind [Yl.ret,DV.toV,DC.toC,dn]
 ·rename_i b f cs;refine Yl.ret fun hg=>⟨hx hg,?_⟩;cases b<;>simp only [DV.toV,DC.toC,dn]<;>exact(by grind)
 ·exact Yl.no
theorem z7 {t:TypeId} {x:DV T} {nx:Nat} {g:Prop}:Yl (Adh P t st x) (fun v=>g->v.ok H nx/\(QQ P t st.toSt x.toV).1/\(QQ P t st.toSt x.toV).2=v.toV):=by
 unfold Adh;split
 ·exact Yl.Ts fun hb=>Yl.ret fun _=>⟨by simp only [DV.ok,DC.ok],hb,rfl⟩
 ·exact Yl.Ts fun hb=>Yl.ret fun _=>⟨by simp only [DV.ok,DC.ok],hb,rfl⟩
 ·split
  ·rename_i id E l hr;refine Yl.Ts fun hb=>Yl.ret fun _=>⟨by simp only [DV.ok,DC.ok],?_⟩;obtain⟨ee,e1,e2⟩:=ZF hr;simp_all [DV.toV,DC.toC,Bz,QQ]
  ·exact Yl.no
 ·exact Yl.Ts fun hb=>Yl.ret fun _=>⟨by simp only [DV.ok,DC.ok],hb,rfl⟩
 ·split
  ·rename_i k e n ha;refine Yl.ret fun _=>⟨by simp only [DV.ok,DC.ok],?_⟩;simp_all [DV.toV,DC.toC,Bz,QQ]
  ·exact Yl.no
 ·split
  ·rename_i k e n ha;refine Yl.ret fun _=>⟨by simp only [DV.ok,DC.ok],?_⟩;simp_all [DV.toV,DC.toC,Bz,QQ]
  ·exact Yl.no
 ·exact Yl.no
theorem Dj (hw:AJ H st) (hk:Fm H st.nx key) (hc:Bc key=true): ∀ {xs:List Operand} {vs:List (DV T)},IX st key xs=some vs->
 CQ H st.nx vs/\(st.toSt.args (Bc key) xs).1/\(st.toSt.args (Bc key) xs).2=Bf vs
 | [],vs,h=>by grind [IX,CQ,St.args,Bf]
 | x::xs,vs,h=>by
   unfold IX at h;split at h
   ·rename_i v vs' h1 h2;injection h with h;subst h;obtain⟨a,b,c⟩:=Ai.aee hw hk h1 hc;obtain⟨a',b',c'⟩:=Dj hw hk hc h2;simp_all [CQ,St.args,Bf]
   ·cases h
theorem Q7: ∀ {vs:List (DV T)} {r:IntKind×Int×List Int},ZK vs=some r->Lt (Bf vs)=some r
 | [],_,h=>by simp [ZK]at h
 | [v],r,h=>by
   unfold ZK at h;split at h
   ·rename_i k x he;injection he with he;subst he;injection h with h;subst h;rfl
   all_goals grind
 | v::v'::vs,r,h=>by
   unfold ZK at h;split at h
   ·grind
   ·rename_i k x vs' _ he;injection he with h1 h2;subst h1 h2;split at h
    ·rename_i k' y ys h3;injection h with h;subst h;have:=Q7 h3;simp_all [Bf,DV.toV,DC.toC,Bz,Lt]
    ·cases h
   ·cases h
theorem lP {v:Value} {c:DC T} (h:pz v=some c):Y5 v=some c.toC/\c.ok:=by
 unfold pz at h;split at h
 ·injection h with h;subst h;exact⟨rfl,by simp only [DC.ok]⟩
 ·injection h with h;subst h;exact⟨rfl,by simp only [DC.ok]⟩
 ·injection h with h;subst h;exact⟨rfl,by simp only [DC.ok]⟩
 grind [DC.toC,DC.ok]
theorem Su: ∀ {vs:List Value} {cs:List (DC T)},Sr vs=some cs->I4 vs=some (As cs)/\Cf cs
 | [],cs,h=>by grind [Sr,I4,As,Cf]
 | v::vs,cs,h=>by
   unfold Sr at h;split at h
   ·rename_i c cs' h1 h2;injection h with h;subst h;obtain⟨a,b⟩:=lP h1;obtain⟨a',b'⟩:=Su h2;simp [I4,a,a',As,Cf,b,b']
   ·cases h
theorem OM {t:TypeId} {cs:List (DC T)} (h:ZL P t=some cs):Y6 P t=some (As cs)/\Cf cs:=by grind [ZL,Y6,Su]
theorem DV.acH {v:DV T} {cs:List (DC T)} (h:v.cells=some cs):v.toV.cells=some (As cs)/\(∀ {H:Aw T} {nx:Nat},v.ok H nx->Cf cs):=by unfold DV.cells at h;grind [DV.toV,V.cells,As,Cf,DV.ok]
def wP (l:List (Nat×DV T)):List (Nat×V):=l.map fun x=>(x.1,x.2.toV)
theorem Ih (hw:AJ H st) (hk:Fm H st.nx key) (hc:Bc key=true): ∀ {ps:List (Nat×Operand)} {vs:List (Nat×DV T)},J9 st key ps=some vs->
 (∀ x∈vs,x.2.ok H st.nx)/\(st.toSt.parts (Bc key) ps).1/\(st.toSt.parts (Bc key) ps).2=wP vs
 | [],vs,h=>by grind [J9,St.parts,wP]
 | (i,x)::r,vs,h=>by
   unfold J9 at h;split at h
   ·rename_i v vs' h1 h2;injection h with h;subst h;obtain⟨a,b,c⟩:=Ai.aee hw hk h1 hc;obtain⟨a',b',c'⟩:=Ih hw hk hc h2;simp only [St.parts,wP,c,c',map_cons];grind
   ·cases h
theorem Ka {place:Nat->Option (Nat×Nat)}: ∀ {vs:List (Nat×DV T)} {cells cs:List (DC T)},WJ place cells vs=some cs->
 JO place (As cells) (wP vs)=some (As cs)/\ ∀ {H:Aw T} {nx:Nat},Cf cells->(∀ x∈vs,x.2.ok H nx)->Cf cs
 | [],cells,cs,h=>by simp [WJ]at h;subst h;exact⟨rfl,fun hc _=>hc⟩
 | (i,v)::rest,cells,cs,h=>by
   unfold WJ at h;split at h
   ·rename_i off size ds h1 h2;split at h
    ·rename_i hb;simp only [and_eq_true,beq_eq,ble_eq]at hb;obtain⟨a,b⟩:=DV.acH h2;obtain⟨a',b'⟩:=Ka h;refine⟨?_,fun hc hv=>b' (Db (US hc _) (Db (b (hv (i,v) (by simp))) (UT hc _))) (fun x hx=>hv x (by simp [hx]))⟩;simp only [wP,map_cons,JO,h1,a];rw [if_pos (by rw [AM,AM];exact hb)];rw [<-a',CK,CK,Jr,F3,List.append_assoc];rfl
    ·cases h
   ·cases h
theorem Q8: ∀ {vs:List (DV T)} {cs:List (DC T)},fB vs=some cs->iy (Bf vs)=some (As cs)/\ ∀ {H:Aw T} {nx:Nat},CQ H nx vs->Cf cs
 | [],cs,h=>by grind [fB,Bf,iy,As,Cf]
 | v::vs,cs,h=>by
   unfold fB at h;split at h
   ·cases ‹_=([]:List (DV T))›
   ·rename_i x vs' he;injection he with h1 h2;subst h1 h2;split at h
    ·rename_i cs' hcs;injection h with h;subst h;obtain⟨a,b⟩:=Q8 hcs;refine⟨by simp [Bf,DV.toV,iy,a,As],fun hv=>?_⟩;simp only [CQ,DV.ok]at hv;simp only [Cf];exact⟨hv.1,b hv.2⟩
    ·cases h
   ·cases h
theorem t6 (hw:AJ H st) (hk:Fm H st.nx key) {t:TypeId} {ps:List (Nat×Operand)}:
 Yl (pA P t key st ps) (fun v=>Bc key=true->v.ok H st.nx/\(Ox P st.toSt (Bc key) t ps).1/\(Ox P st.toSt (Bc key) t ps).2=v.toV):=by
 unfold pA;split
 ·rename_i z vs hz hp;split
  ·rename_i cs hf;refine Yl.Ts fun ho=>Yl.ret fun hc=>?_;obtain⟨a,b⟩:=OM hz;obtain⟨p1,p2,p3⟩:=Ih hw hk hc hp;obtain⟨q1,q2⟩:=Ka hf;refine⟨by simp only [DV.ok];exact q2 b p1,?_⟩;simp_all [Ox,DV.toV]
  ·exact Yl.no
 ·exact Yl.no
theorem wQ {y:Operand} {v:DV T} (h:st.arg key y=some v):Acb (wz y) (wA y) v:=by
 intro k b hv;subst hv;have hc: ∀ (k':IntKind) (n:Int),y= .const (.int k' n)->b=n:=by grind [Ai.arg,Ai.ev,UR,WD]
 constructor
 ·intro h1;unfold wz at h1;grind
 ·intro h1;unfold wA at h1;grind
theorem LX (hw:AJ H st) (hk:Fm H st.nx key) (op:Op):Yl (LW P key st op) (Rd H P st key op):=by
 have A: ∀ {x:Operand} {v:DV T},st.arg key x=some v->Bc key=true->v.ok H st.nx/\(st.toSt.arg (Bc key) x).1/\(st.toSt.arg (Bc key) x).2=v.toV:=(by grind [Ai.aee]);unfold LW;split
 ·exact Yl.sm fun v hv hc=>A hv hc
 ·exact Yl.sm fun v hv hc=>A hv hc
 ·rename_i c a b;split
  ·rename_i p hp;refine(wC hw hk hp).mono fun v hv hc=>?_;grind [DV.toV,DC.toC,Bz,DU,rd,Q_]
  ·exact Yl.no
 ·rename_i t x;split
  ·rename_i v hx;refine(ZH hw (by grind)).mono fun r hr hc=>?_;grind [DU,rd,Q_]
  ·exact Yl.no
 ·rename_i op t x y ty;split
  ·rename_i u v hx hy;refine(zV (H:=H) (st:=st) (wQ hy)).mono fun r hr hc=>?_;obtain⟨q0,q1,q2⟩:=hr hc;obtain⟨_,k1,k2⟩:=A hx hc;obtain⟨_,k3,k4⟩:=A hy hc;refine⟨q0,?_⟩;have e:DU P st.toSt (Bc key) (.binOp op t x y ty)=((st.toSt.arg (Bc key) x).1/\(st.toSt.arg (Bc key) y).1/\(MO P op t (BJ x||BJ y) (st.toSt.arg (Bc key) x).2 (st.toSt.arg (Bc key) y).2).1,(MO P op t (BJ x||BJ y) (st.toSt.arg (Bc key) x).2 (st.toSt.arg (Bc key) y).2).2):=by
    simp only [DU];unfold MO;split
    ·grind
    ·rename_i hne;split
     ·grind
     ·rfl
   grind
  ·exact Yl.no
 ·rename_i op t x;split
  ·rename_i v hx;refine(Adi (H:=H) (g:=Bc key=true) (nx:=st.nx)).mono fun r hr hc=>?_;grind [DU,rd,Q_]
  ·exact Yl.no
 ·rename_i s d x;split
  ·rename_i v hx;refine(wI (H:=H) (g:=Bc key=true) (nx:=st.nx) (z:=st.toSt)).mono fun r hr hc=>?_;grind [DU,rd,Q_]
  ·exact Yl.no
 ·rename_i t x lo hi;split
  ·rename_i v l h hx hl hh;refine(zX (H:=H) (nx:=st.nx) (a:=(C0 st.toSt (Bc key) lo).2) (b:=(C0 st.toSt (Bc key) hi).2) (fun hc=>(UW hw hk hl hc).2) (fun hc=>(UW hw hk hh hc).2)).mono fun r hr hc=>?_;grind [DU,rd,Q_,UW]
  ·exact Yl.no
 ·rename_i s x f;split
  ·rename_i v hx;refine(wL (H:=H) (g:=Bc key=true) (nx:=st.nx) (by grind)).mono fun r hr hc=>?_;grind [DU,rd,Q_]
  ·exact Yl.no
 ·rename_i t x f;split
  ·rename_i v hx;refine(tZ (H:=H) (g:=Bc key=true) (nx:=st.nx) (by grind)).mono fun r hr hc=>?_;grind [DU,rd,Q_]
  ·exact Yl.no
 ·rename_i t x y;split
  ·rename_i u v hx hy;refine(zY (H:=H) (nx:=st.nx)).mono fun r hr hc=>?_;grind [DU,rd,Q_]
  ·exact Yl.no
 ·rename_i t x y;split
  ·rename_i u v hx hy;refine(wN (H:=H) (nx:=st.nx)).mono fun r hr hc=>?_;grind [DU,rd,Q_]
  ·exact Yl.no
 ·rename_i x i;split
  ·rename_i v hx;refine(zZ (H:=H) (g:=Bc key=true) (nx:=st.nx) (by grind)).mono fun r hr hc=>?_;grind [DU,rd,Q_]
  ·exact Yl.no
 ·rename_i x;split
  ·rename_i v hx;refine(wO (H:=H) (g:=Bc key=true) (nx:=st.nx) (by grind)).mono fun r hr hc=>?_;grind [DU,rd,Q_]
  ·exact Yl.no
 ·exact t6 hw hk
 ·rename_i f ahF;split
  ·rename_i vs hvs;split
   ·rename_i cs hcs;refine Yl.ret fun hc=>?_;obtain⟨a,b,c⟩:=Dj hw hk hc hvs;obtain⟨d,e⟩:=Q8 hcs;refine⟨by grind [DV.ok,DC.ok],?_⟩;simp_all [DU,DV.toV,DC.toC]
   ·exact Yl.no
  ·exact Yl.no
 ·rename_i f x xs;split
  ·rename_i vs hvs;split
   ·rename_i cs hcs;refine Yl.ret fun hc=>?_;obtain⟨a,b,c⟩:=Dj hw hk hc hvs;obtain⟨d,e⟩:=Q8 hcs;refine⟨by grind [DV.ok,DC.ok],?_⟩;simp_all [DU,DV.toV,DC.toC]
   ·exact Yl.no
  ·exact Yl.no
 ·rename_i c;split
  ·rename_i b hb;split
   ·rename_i x t h1 h2;split
    ·rename_i v hx;refine(z7 (H:=H) (g:=Bc key=true) (nx:=st.nx)).mono fun r hr hc=>?_;grind [DU,rd,QT,Q_]
    ·exact Yl.no
   ·split
    ·rename_i vs hvs;split
     ·rename_i k x ys hi;refine Yl.ret fun hc=>?_;obtain⟨a,b',c'⟩:=Dj hw hk hc hvs;refine⟨by simp only [Acf,DV.ok,DC.ok],?_⟩;simp only [DU,rd,hb,QT,c',oL,Q7 hi];exact⟨⟨b',trivial⟩,rfl⟩
     ·exact Yl.no
    ·exact Yl.no
   ·split
    ·rename_i vs hvs;split
     ·rename_i k x ys hi;refine Yl.ret fun hc=>?_;obtain⟨a,b',c'⟩:=Dj hw hk hc hvs;refine⟨by simp only [Acg,DV.ok,DC.ok],?_⟩;simp only [DU,rd,hb,QT,c',oM,Q7 hi];exact⟨⟨b',trivial⟩,rfl⟩
     ·exact Yl.no
    ·exact Yl.no
   ·exact Yl.no
  ·exact Yl.no
 ·exact Yl.no
end
end Go.PL
namespace Go.PL
open Go Go.RowKit
variable {T:Bj}
def Ai.put (st:Ai T) (d:Option Nat) (v:DV T):Ai T:=match d with
 | some d=>{st with tm:=(d,st.nx,v)::st.tm,nx:=st.nx+1}
 | none=>st
theorem lQ (m d t:Nat) (v:DV T) (tm:Tm T):AD m ((d,t,v)::tm)=(AD m tm).set d v.toV:=by
 apply ext_getElem?;intro i;unfold AD;rw [List.getElem?_set];simp only [getElem?_map,List.length_map,List.length_range];by_cases hi:i<m
 ·rw [List.getElem?_range hi];simp only [Option.map_some,lk];by_cases hd:d=i
  ·simp_all
  grind [Nat.eq_of_beq_eq_true]
 grind
theorem Ai.k_ (st:Ai T) (d:Option Nat) (v:DV T):(st.put d v).toSt =st.toSt.put d v.toV:=by cases d<;>grind [Ai.put,Ai.toSt,St.put,lQ]
def Aw.afi (H:Aw T) (t:Nat) (v:DV T):Aw T:=⟨fun i=>if i=t then v else H.v i,H.e⟩
def Aw.X_ (H:Aw T) (t:Nat) (e:DE T):Aw T:=⟨H.v,fun i=>if i=t then e else H.e i⟩
theorem C2.afi (H:Aw T) (t:Nat) (v:DV T):C2 t H (H.afi t v):=fun i hi=>⟨by simp only [Aw.afi];grind,rfl⟩
theorem C2.X_ (H:Aw T) (t:Nat) (e:DE T):C2 t H (H.X_ t e):=fun i hi=>⟨rfl,by simp only [Aw.X_];grind⟩
structure Nx (H:Aw T) (st:Ai T) (H':Aw T) (a_:Ai T):Prop where
 ext:C2 st.nx H H'
 le:st.nx<=a_.nx
 ok:AJ H' a_
theorem Nx.refl {H:Aw T} {st:Ai T} (h:AJ H st):Nx H st H st:=⟨C2.refl _ _,le_refl _,h⟩
theorem Nx.trans {H H' H'':Aw T} {a b c:Ai T} (h:Nx H a H' b) (k:Nx H' b H'' c):Nx H a H'' c:=⟨h.ext.trans k.ext h.le,Nat.le_trans h.le k.le,k.ok⟩
theorem Fo {H H':Aw T} {n m:Nat} (he:C2 n H H') (hnm:n<=m) {l:List (DE T)} (h: ∀ e∈l,e.tag<n/\H.e e.tag=e/\e.x.ok): ∀ e∈l,e.tag<m/\H'.e e.tag=e/\e.x.ok:=fun e hm=>by obtain⟨a,b,c⟩:=h e hm;exact⟨(by grind),by rw [(he e.tag a).2];exact b,c⟩
theorem Ai.aar {H:Aw T} {st:Ai T} (h:AJ H st) (d:Option Nat) {v:DV T} (hv:v.ok H st.nx): ∃ H',Nx H st H' (st.put d v):=by
 cases d with
 | none=>exact⟨H,Nx.refl h⟩
 | some d=>
   have he:=C2.afi H st.nx v;refine⟨H.afi st.nx v,he,by simp [Ai.put],?_,?_,?_,h.nd⟩
   ·intro s t w hm;simp only [Ai.put]at hm ⊢;rcases mem_cons.1 hm with hm | hm
    ·injection hm with h1 hm;injection hm with h2 h3;subst h1 h2 h3;exact⟨Nat.lt_succ_self _,by simp [Aw.afi],DV.acA he (le_succ _) hv⟩
    ·exact BW he (le_succ _) h.tm s t w hm
   ·intro f hf;exact BW he (le_succ _) (h.gh f hf)
   ·exact Fo he (le_succ _) h.so
def Qn (p:DV T->Bool) (f:DV T->DV T):Nat->Tm T->Tm T
 | _,[]=>[]
 | n,(s,t,v)::r=>match p v with
   | true=>(s,n,f v)::Qn p f (n+1) r
   | false=>(s,t,v)::Qn p f (n+1) r
def Q9 (p:DV T->Bool) (f:DV T->DV T):Nat->List (Nat×Tm T)->List (Nat×Tm T)
 | _,[]=>[]
 | n,(m,tm)::r=>(m,Qn p f n tm)::Q9 p f (n+tm.length) r
def NV:List (Nat×Tm T)->Nat
 | []=>0
 | (_,tm)::r=>tm.length+NV r
def Ra (q:DX T->Bool) (g:DX T->DX T):Nat->List (DE T)->List (DE T)
 | _,[]=>[]
 | n,e::r=>match q e.x with
   | true=>⟨e.id,n,g e.x⟩::Ra q g (n+1) r
   | false=>e::Ra q g (n+1) r
def Ai.adw (p:DV T->Bool) (f:DV T->DV T) (q:DX T->Bool) (g:DX T->DX T) (st:Ai T):Ai T:=
 {st with tm:=Qn p f st.nx st.tm,gh:=Q9 p f (st.nx+st.tm.length) st.gh,so:=Ra q g (st.nx+st.tm.length+NV st.gh) st.so,nx:=st.nx+st.tm.length+NV st.gh+st.so.length}
section
variable {p:DV T->Bool} {f:DV T->DV T} {q:DX T->Bool} {g:DX T->DX T}
theorem YC (hf: ∀ {H:Aw T} {n:Nat} {v:DV T},v.ok H n->(f v).ok H n): ∀ (tm:Tm T) (n:Nat) (H:Aw T),Q5 H n tm-> ∃ H',C2 n H H'/\Q5 H' (n+tm.length) (Qn p f n tm)
 | [],n,H,_=>⟨H,C2.refl _ _,fun _ _ _ h=>by cases h⟩
 | (s,t,v)::r,n,H,h=>by
   obtain⟨a,b,c⟩:=h s t v (by simp);have hr:Q5 H n r:=fun s' t' v' hm=>h s' t' v' (by simp [hm]);unfold Qn;split
   ·have he:=C2.afi H n (f v);obtain⟨H',h1,h2⟩:=YC hf r (n+1) (H.afi n (f v)) (BW he (le_succ _) hr);refine⟨H',he.trans h1 (le_succ _),fun s' t' v' hm=>?_⟩;rw [show n+((s,t,v)::r).length =n+1+r.length by simp;omega];rcases mem_cons.1 hm with hm | hm
    ·injection hm with e1 hm;injection hm with e2 e3;subst e1 e2 e3;refine⟨by omega,?_,DV.acA (he.trans h1 (le_succ _)) (by omega) (hf c)⟩;rw [(h1 t' (by omega)).1];simp [Aw.afi]
    ·exact h2 s' t' v' hm
   ·obtain⟨H',h1,h2⟩:=YC hf r (n+1) H (BW (C2.refl _ _) (le_succ _) hr);have h1':C2 n H H':=fun i hi=>h1 i (by omega);refine⟨H',h1',fun s' t' v' hm=>?_⟩;rw [show n+((s,t,v)::r).length =n+1+r.length by simp;omega];rcases mem_cons.1 hm with hm | hm
    ·injection hm with e1 hm;injection hm with e2 e3;subst e1 e2 e3;refine⟨by omega,?_,DV.acA h1' (by omega) c⟩;rw [(h1' t' a).1];exact b
    ·exact h2 s' t' v' hm
theorem rV (hf: ∀ {H:Aw T} {n:Nat} {v:DV T},v.ok H n->(f v).ok H n): ∀ (l:List (Nat×Tm T)) (n:Nat) (H:Aw T),(∀ x∈l,Q5 H n x.2)-> ∃ H',C2 n H H'/\ ∀ x∈Q9 p f n l,Q5 H' (n+NV l) x.2
 | [],n,H,_=>⟨H,C2.refl _ _,fun _ h=>by cases h⟩
 | (m,tm)::r,n,H,h=>by
   obtain⟨H1,a,b⟩:=YC (p:=p) hf tm n H (h (m,tm) (by simp));obtain⟨H2,c,d⟩:=rV hf r (n+tm.length) H1 (by grind [BW]);refine⟨H2,a.trans c (by omega),fun x hx=>?_⟩;have e:n+NV ((m,tm)::r)=n+tm.length+NV r:=by simp [NV];omega
   rw [e];rcases mem_cons.1 hx with rfl | hx
   all_goals grind [BW]
theorem iO (hg: ∀ {x:DX T},x.ok->(g x).ok): ∀ (l:List (DE T)) (n:Nat) (H:Aw T),(∀ e∈l,e.tag<n/\H.e e.tag=e/\e.x.ok)-> ∃ H',C2 n H H'/\ ∀ e∈Ra q g n l,e.tag<n+l.length/\H'.e e.tag=e/\e.x.ok
 | [],n,H,_=>⟨H,C2.refl _ _,fun _ h=>by cases h⟩
 | e::r,n,H,h=>by
   obtain⟨a,b,c⟩:=h e (by simp);have hr: ∀ e∈r,e.tag<n/\H.e e.tag=e/\e.x.ok:=(by grind);unfold Ra;split
   ·have he:=C2.X_ H n ⟨e.id,n,g e.x⟩;obtain⟨H',h1,h2⟩:=iO hg r (n+1) (H.X_ n ⟨e.id,n,g e.x⟩) (Fo he (le_succ _) hr);refine⟨H',he.trans h1 (le_succ _),fun x hm=>?_⟩;rw [show n+(e::r).length =n+1+r.length by simp;omega];rcases mem_cons.1 hm with rfl | hm
    ·refine⟨by grind,?_,hg c⟩;simp only;rw [(h1 n (by omega)).2];simp [Aw.X_]
    grind
   ·obtain⟨H',h1,h2⟩:=iO hg r (n+1) H (by grind);have h1':C2 n H H':=fun i hi=>h1 i (by omega);refine⟨H',h1',fun x hm=>?_⟩;rw [show n+(e::r).length =n+1+r.length by simp;omega];rcases mem_cons.1 hm with rfl | hm
    ·exact⟨by omega,by rw [(h1' x.tag a).2];exact b,c⟩
    grind
theorem lR: ∀ (l:List (DE T)) (n:Nat),(Ra q g n l).map DE.id=l.map DE.id
 | [],_=>rfl
 | e::r,n=>by unfold Ra;split<;>simp [lR r]
theorem Ai.adO {H:Aw T} {st:Ai T} (h:AJ H st) (hf: ∀ {H:Aw T} {n:Nat} {v:DV T},v.ok H n->(f v).ok H n) (hg: ∀ {x:DX T},x.ok->(g x).ok): ∃ H',Nx H st H' (st.adw p f q g):=by
 obtain⟨H1,a1,b1⟩:=YC (p:=p) hf st.tm st.nx H h.tm;obtain⟨H2,a2,b2⟩:=rV (p:=p) hf st.gh (st.nx+st.tm.length) H1 (fun x hx=>BW a1 (by omega) (h.gh x hx));obtain⟨H3,a3,b3⟩:=iO (q:=q) hg st.so (st.nx+st.tm.length+NV st.gh) H2 (Fo (a1.trans a2 (by omega)) (by omega) h.so);have a23:C2 (st.nx+st.tm.length) H1 H3:=a2.trans a3 (by omega);refine⟨H3,a1.trans a23 (by omega),by grind [Ai.adw],?_,?_,b3,by simp only [Ai.adw,lR];exact h.nd⟩
 all_goals grind [BW,Ai.adw]
theorem MU (hu:p .u =false) (i:Nat): ∀ (tm:Tm T) (n:Nat),lk (Qn p f n tm) i=(match p (lk tm i)with | true=>f (lk tm i) | false=>lk tm i)
 | [],n=>by simp [Qn,lk,hu]
 | (s,t,v)::r,n=>by
   unfold Qn;split
   ·rename_i hp;simp only [lk];cases Nat.beq s i with
    | true=>simp only [hp]
    | false=>exact MU hu i r (n+1)
   ·rename_i hp;simp only [lk];cases Nat.beq s i with
    | true=>simp only [hp]
    | false=>exact MU hu i r (n+1)
theorem lS {F:V->V} (hu:p .u =false) {tm:Tm T} (h1: ∀ i,p (lk tm i)=true->(f (lk tm i)).toV =F (lk tm i).toV) (h2: ∀ i,p (lk tm i)=false->F (lk tm i).toV =(lk tm i).toV) (m n:Nat):AD m (Qn p f n tm)=(AD m tm).map F:=by unfold AD;rw [map_map];apply List.map_congr_left;intro i _;simp only [Function.comp,MU hu];grind
theorem lT {F:V->V} (hu:p .u =false): ∀ {l:List (Nat×Tm T)} (n:Nat),(∀ x∈l, ∀ i,(p (lk x.2 i)=true->(f (lk x.2 i)).toV =F (lk x.2 i).toV)/\(p (lk x.2 i)=false->F (lk x.2 i).toV =(lk x.2 i).toV))->
 (Q9 p f n l).flatMap (fun f=>AD f.1 f.2)=(l.flatMap fun f=>AD f.1 f.2).map F
 | [],_,_=>rfl
 | (m,tm)::r,n,h=>by simp only [Q9,flatMap_cons,map_append];rw [lT hu (n+tm.length) (fun x hx=>h x (by simp [hx])),lS hu (fun i=>(h (m,tm) (by simp) i).1) (fun i=>(h (m,tm) (by simp) i).2)]
theorem ON {F:Ax->Ax}: ∀ {l:List (DE T)} (n:Nat),(∀ e∈l,(q e.x=true-> ∀ t,(⟨e.id,t,g e.x⟩:DE T).toE =F e.toE)/\(q e.x=false->F e.toE=e.toE))->(Ra q g n l).map DE.toE=(l.map DE.toE).map F
 | [],_,_=>rfl
 | e::r,n,h=>by
   have ih:=ON (n+1) (fun x hx=>h x (by simp [hx])) (l:=r);unfold Ra;split
   ·rename_i hq;simp only [map_cons,ih,(h e (by simp)).1 hq]
   ·rename_i hq;simp only [map_cons,ih,(h e (by simp)).2 hq]
end
theorem C3 (a b:Ak):Bi a b=(a==b):=by grind [AP]
def z8 (id:Ak):C->Bool
 | .h_ i=>Bi i id
 | .ptr i _=>Bi i id
 | .bsl i _ _=>Bi i id
 | .rsl i _ _ _=>Bi i id
 | .bld i _=>Bi i id
 | .afN i=>Bi i id
 | .clo _ cs=>BS id cs
 | .bmv _ cs=>BS id cs
 | _=>false
theorem Aaa (id:Ak) (c:C):z8 id c=c.s_ id:=by cases c<;>simp only [z8,C.s_,C3]
mutual
def DC.s_ (id:Ak):DC T->Bool
 | .c x=>z8 id x
 | .rp i _ _ _=>Bi i id
 | .ap i _ _ _ _ _=>Bi i id
 | .bs i _ _ _=>Bi i id
 | .clo _ _ cs=>Sv id cs
 | .k _ _=>false
 | .ip .. =>false
def Sv (id:Ak):List (DC T)->Bool
 | []=>false
 | c::cs=>match c.s_ id with
   | true=>true
   | false=>Sv id cs
end
mutual
theorem DC.agR (id:Ak): ∀ c:DC T,c.s_ id=c.toC.s_ id
 | .c x=>by simp only [DC.s_,DC.toC,Aaa]
 | .rp .. =>by simp only [DC.s_,DC.toC,C.s_,C3]
 | .ap .. =>by simp only [DC.s_,DC.toC,C.s_,C3]
 | .bs .. =>by simp only [DC.s_,DC.toC,C.s_,C3]
 | .clo true _ cs=>by simp only [DC.s_,DC.toC,C.s_,OO id cs]
 | .clo false _ cs=>by simp only [DC.s_,DC.toC,C.s_,OO id cs]
 | .k kd x=>by cases kd<;>simp only [DC.s_,DC.toC,Bz,C.s_]
 | .ip .. =>by simp only [DC.s_,DC.toC,C.s_]
theorem OO (id:Ak): ∀ cs:List (DC T),Sv id cs=BS id (As cs)
 | []=>by simp only [Sv,As,BS]
 | c::cs=>by simp only [Sv,As,BS,DC.agR id c,OO id cs];cases c.toC.s_ id<;>rfl
end
mutual
def DV.s_ (id:Ak):DV T->Bool
 | .c x=>x.s_ id
 | .agg cs=>Sv id cs
 | .tup vs=>fD id vs
 | .g _ v=>v.s_ id
 | .u =>false
def fD (id:Ak):List (DV T)->Bool
 | []=>false
 | v::vs=>match v.s_ id with
   | true=>true
   | false=>fD id vs
end
mutual
theorem DV.agQ (id:Ak): ∀ v:DV T,v.s_ id=false->v.toV.s_ id=false
 | .c x,h=>by grind [DV.s_,DV.toV,V.s_,DC.agR]
 | .agg cs,h=>by grind [DV.s_,DV.toV,V.s_,OO]
 | .tup vs,h=>by simp only [DV.s_]at h;simp only [DV.toV,V.s_];exact lU id vs h
 | .g k v,h=>by simp only [DV.s_]at h;simp only [DV.toV,V.s_,DV.agQ id v h,Bool.false_and]
 | .u,_=>by simp only [DV.toV,V.s_]
theorem lU (id:Ak): ∀ vs:List (DV T),fD id vs=false->Ls id (Bf vs)=false
 | [],_=>by simp only [Bf,Ls]
 | v::vs,h=>by
   simp only [fD]at h;split at h
   ·cases h
   ·rename_i hv;simp only [Bf,Ls,DV.agQ id v hv,lU id vs h,Bool.or_self]
end
def ZM (id:Ak) (c:DC T):DC T:=match c.s_ id with
 | true=> .c .any
 | false=>c
def DX.s_ (id:Ak):DX T->Bool
 | .box cs=>Sv id cs
 | .row _ _=>false
 | .deep .. =>false
def OP (id:Ak):DX T->DX T
 | .box cs=> .box (cs.map (ZM id))
 | x=>x
def lV (p:DV T->Bool):Tm T->Bool
 | []=>true
 | (_,_,v)::r=>match p v with
   | true=>lV p r
   | false=>false
def rW (p:DV T->Bool):List (Nat×Tm T)->Bool
 | []=>true
 | (_,tm)::r=>match lV p tm with
   | true=>rW p r
   | false=>false
def rX (q:DX T->Bool):List (DE T)->Bool
 | []=>true
 | e::r=>match q e.x with
   | true=>rX q r
   | false=>false
theorem Rb {p:DV T->Bool} (hu:p .u =true): ∀ {tm:Tm T},lV p tm=true-> ∀ i,p (lk tm i)=true
 | [],_,i=>hu
 | (s,t,v)::r,h,i=>by
   simp only [lV]at h;split at h
   ·rename_i hv;simp only [lk];cases Nat.beq s i
    ·exact Rb hu h i
    ·exact hv
   ·cases h
theorem ZN {p:DV T->Bool} (hu:p .u =true): ∀ {l:List (Nat×Tm T)},rW p l=true-> ∀ x∈l, ∀ i,p (lk x.2 i)=true
 | [],_,x,hx,_=>by cases hx
 | (m,tm)::r,h,x,hx,i=>by
   simp only [rW]at h;split at h
   ·rename_i hv;rcases mem_cons.1 hx with rfl | hx
    ·exact Rb hu hv i
    ·exact ZN hu h x hx i
   ·cases h
theorem ZO {q:DX T->Bool}: ∀ {l:List (DE T)},rX q l=true-> ∀ e∈l,q e.x=true
 | [],_,e,he=>by cases he
 | x::r,h,e,he=>by
   simp only [rX]at h;split at h
   ·rename_i hv;rcases mem_cons.1 he with rfl | he
    ·exact hv
    ·exact ZO h e he
   ·cases h
def Ai.ao_ (st:Ai T) (id:Ak):Bool:=lV (fun v=> !(v.s_ id)) st.tm&&(rW (fun v=> !(v.s_ id)) st.gh&&rX (fun x=> !(x.s_ id)) st.so)
def Ai.kill (st:Ai T) (id:Ak):Option (Ai T):=match Dh id||Fj id with
 | true=>none
 | false=>match st.ao_ id with
   | true=>some {st with so:=st.so.filter fun e=> !(Bi e.id id)}
   | false=>some (let s:=st.adw (DV.s_ id) (fun _=> .u) (DX.s_ id) (OP id);{s with so:=s.so.filter fun e=> !(Bi e.id id)})
theorem t7 {id:Ak} {c:DC T} (h:c.ok):(ZM id c).ok :=by grind [ZM,DC.ok]
theorem pB (id:Ak) (c:DC T):(ZM id c).toC =Ia id c.toC:=by grind [ZM,Ia,DC.agR,DC.toC]
theorem Ii {α:Type} {F:α->α}: ∀ {l:List α},(∀ x∈l,F x=x)->l.map F=l
 | [],_=>rfl
 | a::l,h=>by rw [map_cons,h a (by simp),Ii (fun x hx=>h x (by simp [hx]))]
theorem wR {F:V->V} {m:Nat} {tm:Tm T} (h: ∀ i,F (lk tm i).toV =(lk tm i).toV):(AD m tm).map F=AD m tm:=by refine Ii fun x hx=>?_;obtain⟨i,_,rfl⟩:=mem_map.1 hx;exact h i
theorem Afw {F:V->V} {l:List (Nat×Tm T)} (h: ∀ x∈l, ∀ i,F (lk x.2 i).toV =(lk x.2 i).toV):(l.flatMap fun f=>AD f.1 f.2).map F=l.flatMap fun f=>AD f.1 f.2:=by refine Ii fun x hx=>?_;obtain⟨y,hy,hx⟩:=List.mem_flatMap.1 hx;obtain⟨i,_,rfl⟩:=mem_map.1 hx;grind
def LK:List V->List V->Prop
 | [],[]=>True
 | x::xs,y::ys=>(y= .undef \/y=x)/\LK xs ys
 | _,_=>False
theorem LK.refl: ∀ l:List V,LK l l
 | []=>trivial
 | x::xs=>⟨.inr rfl,LK.refl xs⟩
theorem LK.append: ∀ {a b c d:List V},LK a b->LK c d->LK (a++c) (b++d)
 | [],[],_,_,_,h=>h
 | [],_::_,_,_,h,_=>h.elim
 | _::_,[],_,_,h,_=>h.elim
 | _::_,_::_,_,_,h,k=>⟨h.1,h.2.append k⟩
theorem LK.get: ∀ {a b:List V},LK a b->b.length=a.length/\ ∀ i,b.getD i .undef = .undef \/b.getD i .undef =a.getD i .undef
 | [],[],_=>(by grind)
 | [],_::_,h=>h.elim
 | _::_,[],h=>h.elim
 | x::xs,y::ys,h=>by
   obtain⟨h1,h2⟩:=LK.get h.2;refine⟨by simp [h1],fun i=>?_⟩;cases i with
   | zero=>simpa using h.1
   | succ i=>simpa using h2 i
theorem LK.map {α:Type} {f g:α->V}: ∀ {l:List α},(∀ x∈l,g x= .undef \/g x=f x)->LK (l.map f) (l.map g)
 | [],_=>trivial
 | a::l,h=>⟨h a (by simp),LK.map fun x hx=>h x (by simp [hx])⟩
theorem LK.set: ∀ {a b:List V},LK a b-> ∀ (i:Nat) (v:V),LK (a.set i v) (b.set i v)
 | [],[],_,_,_=>trivial
 | [],_::_,h,_,_=>h.elim
 | _::_,[],h,_,_=>h.elim
 | _::_,_::_,h,0,v=>⟨.inr rfl,h.2⟩
 | _::_,_::_,h,i+1,v=>⟨h.1,h.2.set i v⟩
theorem LK.of {a b:List V} (hl:b.length=a.length) (h: ∀ i,b.getD i .undef = .undef \/b.getD i .undef =a.getD i .undef):LK a b:=by
 induction a generalizing b with
 | nil=>
   cases b with
   | nil=>trivial
   | cons y ys=>simp at hl
 | cons x xs ih=>
   cases b with
   | nil=>simp at hl
   | cons y ys=>exact⟨by simpa using h 0,ih (by grind) (fun i=>by simpa using h (i+1))⟩
theorem Cn.put {a b:St} (h:Cn a b) (d:Option Nat) (v:V):Cn (a.put d v) (b.put d v):=by
 cases d with
 | none=>exact h
 | some d=>
   have:=((LK.of h.len h.tm).set d v).get;exact⟨this.1,this.2,h.so,h.nd,h.gh,h.pre⟩
theorem Ek {H:Aw T} {st:Ai T} (h:AJ H st) (p:DE T->Bool):AJ H {st with so:=st.so.filter p}:=
 ⟨h.tm,h.gh,fun e he=>h.so e (by grind),List.Sublist.nodup (by grind [List.filter_sublist]) h.nd⟩
theorem ZP (id:Ak) (hd:Dh id=false) (l:List (DE T)):(l.filter fun e=> !(Bi e.id id)).map DE.toE=(l.map DE.toE).filter (fun e=>e.id != id&& !(Dh id&&Fj e.id)):=by
 induction l with
 | nil=>rfl
 | cons e l ih=>
   simp only [List.filter_cons,map_cons,DE.toE_id,hd,Bool.false_and,Bool.not_false,Bool.and_true,C3]at ih ⊢;grind
theorem iP {id:Ak} {e:DE T} (h:e.x.s_ id=false):e.toE.fre id=true:=by grind [Ax.fre,DE.toE,DX.s_,OO]
theorem pC {id:Ak} {e:DE T} (t:Nat):(⟨e.id,t,OP id e.x⟩:DE T).toE =Ax.kill id e.toE:=by
 unfold DE.toE;cases hxx:e.x with
 | box cs=>
   simp only [OP,Ax.kill,CG,map_map,Ax.mk.injEq,and_true,true_and];grind [List.map_congr_left,pB]
 | row E l=>rfl
 | deep E n l h=>rfl
theorem lW (id:Ak) (p:Ak->Bool->Bool) (l:List Ax):(l.map (Ax.kill id)).filter (fun e=>e.id != id&& !(Dh id&&Fj e.id))=(l.filter (fun e=>e.id != id&& !(Dh id&&Fj e.id))).map (Ax.kill id):=by induction l<;>grind [Ax.P_]
theorem lX {id:Ak} {m n:Nat} {tm:Tm T}:LK ((AD m tm).map (Fa id)) (AD m (Qn (DV.s_ id) (fun _=> .u) n tm)):=by unfold AD;rw [map_map];refine LK.map fun i _=>?_;simp only [Function.comp,MU (p:=DV.s_ id) (f:=fun _=>DV.u) (by simp [DV.s_])];grind [DV.toV,Zt,DV.agQ]
theorem Ach {id:Ak}: ∀ (l:List (Nat×Tm T)) (n:Nat),LK ((l.flatMap fun f=>AD f.1 f.2).map (Fa id)) ((Q9 (DV.s_ id) (fun _=> .u) n l).flatMap fun f=>AD f.1 f.2)
 | [],_=>trivial
 | (m,tm)::r,n=>by simp only [Q9,flatMap_cons,map_append];exact lX.append (Ach r _)
theorem Ai.alE {H:Aw T} {st a_:Ai T} {id:Ak} (h:AJ H st) (hk:st.kill id=some a_):(∃ H',Nx H st H' a_)/\Cn (st.toSt.kill id) a_.toSt/\a_.toSt.so=(st.toSt.kill id).so /\Dh id=false/\Fj id=false/\a_.pre=st.pre/\ ∀ e∈a_.so,e.id ≠ id:=by
 have nid: ∀ l:List (DE T), ∀ e∈l.filter (fun e=> !(Bi e.id id)),e.id ≠ id:=(by grind [AP]);unfold Ai.kill at hk;split at hk
 ·cases hk
 ·rename_i hd;simp only [or_eq_false_iff]at hd;split at hk
  ·rename_i hn;injection hk with hk;subst hk;simp only [Ai.ao_,and_eq_true]at hn;obtain⟨n1,n2,n3⟩:=hn;have k1: ∀ i,Fa id (lk st.tm i).toV =(lk st.tm i).toV :=(by grind [Zt,DV.agQ,Rb,DV.s_]);have k2: ∀ x∈st.gh, ∀ i,Fa id (lk x.2 i).toV =(lk x.2 i).toV :=fun x hx i=>(by grind [Zt,DV.agQ,ZN,DV.s_]);have e:(({st with so:=st.so.filter fun e=> !(Bi e.id id)}:Ai T)).toSt =st.toSt.kill id:=by simp only [Ai.toSt,St.kill,St.mk.injEq,and_true];refine⟨(wR k1).symm,?_,(Afw k2).symm⟩;rw [ZP id hd.1];refine(Ii fun e he=>?_).symm;obtain⟨x,hx,rfl⟩:=mem_map.1 (List.mem_filter.1 he).1;grind [ZO,Ax.afq,iP]
   exact⟨⟨H,C2.refl _ _,le_refl _,Ek h _⟩,e▸Cn.refl _,by rw [e],hd.1,hd.2,rfl,nid _⟩
  ·injection hk with hk;subst hk;obtain⟨H',hN⟩:=Ai.adO (p:=DV.s_ id) (f:=fun _=> .u) (q:=DX.s_ id) (g:=OP id) h (fun _=>by simp only [DV.ok]) (fun {x} hx=>by
    cases x with
    | box cs=>
      simp only [OP,DX.ok]at hx ⊢;refine Da.2 fun c hc=>?_;obtain⟨d,h1,rfl⟩:=mem_map.1 hc;grind [t7,Da]
    | row E l=>exact hx
    | deep E n l h=>exact hx)
   have hso:(((Ra (DX.s_ id) (OP id) (st.nx+st.tm.length+NV st.gh) st.so).filter fun e=> !(Bi e.id id)).map DE.toE)=(st.toSt.kill id).so :=by rw [ZP id hd.1,ON (F:=Ax.kill id) _ (fun e _=>⟨fun _ t=>pC t,fun hm=>Ax.afq (iP hm)⟩)];exact lW id (fun _ _=>true) _
   refine⟨⟨H',hN.ext,hN.le,Ek hN.ok _⟩,?_,hso,hd.1,hd.2,rfl,nid _⟩;have a:=(lX (id:=id) (m:=st.m) (n:=st.nx) (tm:=st.tm)).get;have b:=(Ach (id:=id) st.gh (st.nx+st.tm.length)).get;exact⟨a.1,a.2,fun e he=>by rw [<-hso];exact he,fun hn=>by have:(Ai.toSt {(st.adw (DV.s_ id) (fun _=> .u) (DX.s_ id) (OP id))with so:=(st.adw (DV.s_ id) (fun _=> .u) (DX.s_ id) (OP id)).so.filter fun e=> !(Bi e.id id)}).so =(st.toSt.kill id).so :=hso;grind,b,rfl⟩
def Ai.new (st:Ai T) (id:Ak) (x:DX T):Option (Ai T):=match st.kill id,x.s_ id with
 | some s,false=>some {s with so:=⟨id,s.nx,x⟩::s.so,nx:=s.nx+1}
 | _,_=>none
theorem Ai.acB {H:Aw T} {st a_:Ai T} {id:Ak} {x:DX T} (h:AJ H st) (hx:x.ok) (hk:st.new id x=some a_):(∃ H',Nx H st H' a_)/\Cn (st.toSt.new (⟨id,0,x⟩:DE T).toE) a_.toSt/\a_.pre=st.pre:=by
 unfold Ai.new at hk;split at hk
 ·rename_i s hs hm;injection hk with hk;subst hk;obtain⟨⟨H',hN⟩,h2,h2',h3,h4,h5,h6⟩:=Ai.alE h hs;have he:=C2.X_ H' s.nx ⟨id,s.nx,x⟩;refine⟨⟨H'.X_ s.nx ⟨id,s.nx,x⟩,hN.trans ⟨he,le_succ _,?_,?_,?_,?_⟩⟩,?_,h5⟩
  ·exact BW he (le_succ _) hN.ok.tm
  ·exact fun f hf=>BW he (le_succ _) (hN.ok.gh f hf)
  ·intro e hm';rcases mem_cons.1 hm' with rfl | hm'
   ·simp_all [Aw.X_]
   ·exact Fo he (le_succ _) hN.ok.so e hm'
  ·rw [map_cons];refine nodup_cons.2 ⟨fun hm'=>?_,hN.ok.nd⟩;grind
  ·have e1:(⟨id,0,x⟩:DE T).toE.id =id:=DE.toE_id _;have e2:(⟨id,s.nx,x⟩:DE T).toE =(⟨id,0,x⟩:DE T).toE :=rfl;have e3:Ax.kill id (⟨id,0,x⟩:DE T).toE =(⟨id,0,x⟩:DE T).toE :=Ax.afq (iP hm);have e5:(st.toSt.new (⟨id,0,x⟩:DE T).toE).so =(⟨id,0,x⟩:DE T).toE ::s.toSt.so:=by grind [St.new,We]
   have e6:(Ai.toSt {s with so:=⟨id,s.nx,x⟩::s.so,nx:=s.nx+1}).so =(⟨id,0,x⟩:DE T).toE ::s.toSt.so:=rfl;have hl:=h2;rw [show (st.toSt.kill id)=st.toSt.kill (⟨id,0,x⟩:DE T).toE.id by rw [e1]]at hl;exact⟨hl.len,hl.tm,(by grind),(by grind),hl.gh,by show s.pre=st.pre;exact h5⟩
 ·cases hk
end Go.PL
namespace Go.PL
open Go Go.RowKit
variable {T:Bj}
def NW (id:Ak) (E:Nat) (l:List (T.den E)) (c:DC T):DC T:=match c.s_ id with
 | false=>c
 | true=>match c with
   | .c (.h_ _)=> .k (.u_ E) l
   | _=> .c .any
mutual
def El (id:Ak) (E:Nat) (l:List (T.den E)):DV T->DV T
 | .c x=> .c (NW id E l x)
 | .agg cs=> .agg (cs.map (NW id E l))
 | .tup vs=> .tup (Kb id E l vs)
 | .g k v=> .g k (El id E l v)
 | .u => .u
def Kb (id:Ak) (E:Nat) (l:List (T.den E)):List (DV T)->List (DV T)
 | []=>[]
 | v::vs=>El id E l v::Kb id E l vs
end
def fE (id:Ak) (E:Nat) (l:List (T.den E)):DX T->DX T
 | .box cs=> .box (cs.map (NW id E l))
 | x=>x
def Ai.frz (st:Ai T) (id:Ak):Option (Ai T):=match DO st id with
 | some ⟨E,l⟩=>some (let s:=st.adw (DV.s_ id) (El id E l) (DX.s_ id) (fE id E l);{s with so:=s.so.filter fun e=> !(Bi e.id id)})
 | none=>none
section
variable {id:Ak} {E:Nat} {l:List (T.den E)}
theorem fF (c:DC T):(NW id E l c).toC =KK id l.length (l.flatMap (T.enc E)) c.toC:=by
 unfold NW;cases hm:c.s_ id with
 | false=>
   rw [DC.agR]at hm;simp only;cases hc:c.toC<;>rw [hc]at hm<;>simp only [C.s_,beq_eq_false_iff_ne,ne_eq]at hm<;>simp only [KK]<;>first
    | grind
    | grind
    | rfl
 | true=>
   have hm':=hm;rw [DC.agR]at hm';simp only;split
   ·simp_all [DC.s_,z8,AP,DC.toC,Bz,KK]
   ·rename_i hne;have: ∀ i,c.toC ≠ .h_ i:=fun i he=>by
     cases c with
     | c x=>simp only [DC.toC]at he;simp_all
     | k kd x=>cases kd<;>simp [DC.toC,Bz]at he
     | ip=>simp [DC.toC]at he
     | rp=>simp [DC.toC]at he
     | ap=>simp [DC.toC]at he
     | bs=>simp [DC.toC]at he
     | clo b f cs=>cases b<;>simp [DC.toC]at he
    cases hc:c.toC<;>rw [hc]at hm' this<;>simp only [C.s_,beq_iff_eq,Bool.false_eq_true]at hm'<;>simp only [KK,DC.toC]<;>first
     | grind
     | grind
theorem ZQ {c:DC T} (h:c.ok):(NW id E l c).ok :=by unfold NW;grind [DC.ok]
theorem ZR (cs:List (DC T)):As (cs.map (NW id E l))=(As cs).map (KK id l.length (l.flatMap (T.enc E))):=by grind [CG,List.map_congr_left,fF]
mutual
theorem UX: ∀ v:DV T,(El id E l v).toV =LS id l.length (l.flatMap (T.enc E)) v.toV
 | .c x=>by simp only [El,DV.toV,LS,fF]
 | .agg cs=>by simp only [El,DV.toV,LS,ZR]
 | .tup vs=>by simp only [El,DV.toV,LS,ZS vs]
 | .g k v=>by simp only [El,DV.toV,LS,UX v]
 | .u =>by simp only [El,DV.toV,LS]
theorem ZS: ∀ vs:List (DV T),Bf (Kb id E l vs)=NU id l.length (l.flatMap (T.enc E)) (Bf vs)
 | []=>by simp only [Kb,Bf,NU]
 | v::vs=>by simp only [Kb,Bf,NU,UX v,ZS vs]
end
theorem ZT: ∀ {cs:List (DC T)},Sv id cs=false->cs.map (NW id E l)=cs
 | [],_=>rfl
 | c::cs,h=>by
   simp only [Sv]at h;split at h
   ·cases h
   ·rename_i hc;have:NW id E l c=c:=by unfold NW;simp only [hc]
    rw [map_cons,ZT h,this]
mutual
theorem ZU: ∀ v:DV T,v.s_ id=false->El id E l v=v
 | .c x,h=>by simp_all [DV.s_,El,NW]
 | .agg cs,h=>by grind [DV.s_,El,ZT]
 | .tup vs,h=>by simp only [DV.s_]at h;simp only [El,fG vs h]
 | .g k v,h=>by simp only [DV.s_]at h;simp only [El,ZU v h]
 | .u,_=>by simp only [El]
theorem fG: ∀ vs:List (DV T),fD id vs=false->Kb id E l vs=vs
 | [],_=>by simp only [Kb]
 | v::vs,h=>by
   simp only [fD]at h;split at h
   ·cases h
   ·rename_i hv;simp only [Kb,ZU v hv,fG vs h]
end
theorem Sw {f:DC T->DC T} (hf: ∀ c,c.ok->(f c).ok) {cs:List (DC T)} (h:Cf cs):Cf (cs.map f):=Da.2 fun c hc=>by obtain⟨d,h1,rfl⟩:=mem_map.1 hc;grind [Da]
mutual
theorem ZV {H:Aw T} {n:Nat}: ∀ {v:DV T},v.ok H n->(El id E l v).ok H n
 | .c x,h=>by grind [DV.ok,El,ZQ]
 | .agg cs,h=>by grind [DV.ok,El,Sw,ZQ]
 | .tup vs,h=>by simp only [DV.ok,El]at h ⊢;exact fH h
 | .g k v,h=>by simp only [DV.ok,El]at h ⊢;exact⟨h.1,fun q=>ZV (h.2 q)⟩
 | .u,_=>by simp only [DV.ok,El]
theorem fH {H:Aw T} {n:Nat}: ∀ {vs:List (DV T)},CQ H n vs->CQ H n (Kb id E l vs)
 | [],_=>by simp only [CQ,Kb]
 | v::vs,h=>by simp only [CQ,Kb]at h ⊢;exact⟨ZV h.1,fH h.2⟩
end
theorem fI {e:DE T} (t:Nat):(⟨e.id,t,fE id E l e.x⟩:DE T).toE =Ax.frz id l.length (l.flatMap (T.enc E)) e.toE:=by grind [DE.toE,fE,Ax.frz,ZR]
theorem wS {e:DE T} (h:e.x.s_ id=false):Ax.frz id l.length (l.flatMap (T.enc E)) e.toE=e.toE:=by rw [<-fI e.tag];grind [DX.s_,fE,ZT,DE.toE]
theorem pE (id:Ak) (n:Nat) (cs:List C) (l:List Ax):(l.map (Ax.frz id n cs)).filter (fun e=>e.id != id)=(l.filter (fun e=>e.id != id)).map (Ax.frz id n cs):=by induction l<;>grind [Ax.ait]
theorem agb (id:Ak) (l:List (DE T)):(l.filter fun e=> !(Bi e.id id)).map DE.toE=(l.map DE.toE).filter (fun e=>e.id != id):=by induction l<;>grind [DE.toE_id,C3]
end
theorem Ai.afA {H:Aw T} {st a_:Ai T} {id:Ak} (h:AJ H st) (hk:st.frz id=some a_):(∃ H',Nx H st H' a_)/\a_.toSt=st.toSt.freeze id/\st.toSt.ab6 id=true/\a_.pre=st.pre:=by
 unfold Ai.frz at hk;split at hk
 ·rename_i E l hr;injection hk with hk;subst hk;obtain⟨hl,_,_⟩:=BU hr;obtain⟨H',hN⟩:=Ai.adO (p:=DV.s_ id) (f:=El id E l) (q:=DX.s_ id) (g:=fE id E l) h ZV (fun {x} hx=>by cases x<;>grind [fE,DX.ok,Sw,ZQ])
  refine⟨⟨H',hN.ext,hN.le,Ek hN.ok _⟩,?_,by simp only [St.ab6,hl],rfl⟩;have F1: ∀ tm:Tm T, ∀ i,(DV.s_ id (lk tm i)=true->(El id E l (lk tm i)).toV =LS id l.length (l.flatMap (T.enc E)) (lk tm i).toV)/\(DV.s_ id (lk tm i)=false->LS id l.length (l.flatMap (T.enc E)) (lk tm i).toV =(lk tm i).toV):=fun tm i=>
   (by grind [UX,ZU])
  have fm: ∀ l':List V,NU id l.length (l.flatMap (T.enc E)) l'=l'.map (LS id l.length (l.flatMap (T.enc E))):=by intro l';induction l'<;>grind [NU]
  unfold St.freeze;rw [hl];simp only [Bool.not_true,Bool.false_eq_true,if_false,Ai.toSt,Ai.adw,St.mk.injEq,and_true,fm];refine⟨(by grind [lS,DV.s_]),?_,(by grind [lT,DV.s_])⟩;rw [agb,ON (F:=Ax.frz id l.length (l.flatMap (T.enc E))) _ (fun e _=>⟨fun _ t=>fI t,fun hm=>wS hm⟩)];exact pE _ _ _ _
 ·cases hk
def UY (id:Ak) (t:Nat) (x:DX T):List (DE T)->List (DE T)
 | []=>[]
 | e::r=>match Bi e.id id with
   | true=>⟨e.id,t,x⟩::r
   | false=>e::UY id t x r
def Ai.abx (st:Ai T) (id:Ak) (x:DX T):Ai T:={st with so:=UY id st.nx x st.so,nx:=st.nx+1}
theorem ZW (id:Ak) (t:Nat) (x:DX T): ∀ l:List (DE T),(UY id t x l).map DE.id=l.map DE.id
 | []=>rfl
 | e::r=>by unfold UY;split<;>simp [ZW id t x r]
theorem ZX {id:Ak} {t:Nat} {x:DX T} {F:Ax->Ax} (hF: ∀ a:Ax,a.id ≠ id->F a=a): ∀ {l:List (DE T)} {e:DE T},(l.map DE.id).Nodup ->e∈l->e.id=id->F e.toE=(⟨id,t,x⟩:DE T).toE ->(l.map DE.toE).map F=(UY id t x l).map DE.toE
 | [],_,_,h,_,_=>by cases h
 | a::r,e,hn,hm,he,hf=>by
   rw [map_cons]at hn;obtain⟨n1,n2⟩:=nodup_cons.1 hn;unfold UY;split
   ·rename_i hb;have hb:=AP.1 hb;have hae:a=e:=by grind
    subst hae;simp only [map_cons,hf];rw [<-hb];congr 1;refine Ii fun y hy=>?_;obtain⟨z,hz,rfl⟩:=mem_map.1 hy;grind [DE.toE_id]
   ·rename_i hb;have hne:a.id ≠ id:=fun q=>by rw [AP.2 q]at hb;cases hb
    have hm':e∈r:=by
     rcases mem_cons.1 hm with q | q
     ·subst q;exact absurd he hne
     ·exact q
    simp only [map_cons,ZX hF n2 hm' he hf];rw [hF _ (by rw [DE.toE_id];exact hne)]
theorem Ai.abk {H:Aw T} {st:Ai T} (h:AJ H st) (id:Ak) {x:DX T} (hx:x.ok): ∃ H',Nx H st H' (st.abx id x):=by
 by_cases hid: ∃ e∈st.so,e.id=id
 ·obtain⟨e0,_,he0⟩:=hid;have he:=C2.X_ H st.nx ⟨id,st.nx,x⟩;refine⟨H.X_ st.nx ⟨id,st.nx,x⟩,he,le_succ _,BW he (le_succ _) h.tm,fun f hf=>BW he (le_succ _) (h.gh f hf),?_,by simp only [Ai.abx,ZW];exact h.nd⟩;have key: ∀ l:List (DE T),(∀ e∈l,e.tag<st.nx/\H.e e.tag=e/\e.x.ok)-> ∀ e∈UY id st.nx x l,e.tag<st.nx+1/\(H.X_ st.nx ⟨id,st.nx,x⟩).e e.tag=e/\e.x.ok:=by
   intro l;induction l with
   | nil=>intro _ e hm;cases hm
   | cons a r ih=>
     intro hl e hm;unfold UY at hm;split at hm
     ·rename_i hb;have hb:=AP.1 hb;rcases mem_cons.1 hm with rfl | hm
      ·simp_all [Aw.X_]
      ·exact Fo he (le_succ _) hl e (by simp [hm])
     ·rcases mem_cons.1 hm with rfl | hm
      ·exact Fo he (le_succ _) hl e (by simp)
      simp_all
  exact key st.so h.so
 ·have: ∀ l:List (DE T),(∀ e∈l,e.id ≠ id)->UY id st.nx x l=l:=by intro l;induction l<;>grind [UY,AP]
  have hs:UY id st.nx x st.so=st.so:=(by grind);exact⟨H,C2.refl _ _,le_succ _,BW (C2.refl _ _) (le_succ _) h.tm,fun f hf=>BW (C2.refl _ _) (le_succ _) (h.gh f hf),by simp only [Ai.abx,hs];exact Fo (C2.refl _ _) (le_succ _) h.so,by simp only [Ai.abx,hs];exact h.nd⟩
theorem Ai.aeo {H:Aw T} {st:Ai T} (h:AJ H st) {id:Ak} {x:DX T} {e:DE T} (hm:e∈st.so) (he:e.id=id) {cs:List C} {q:Bool} (hx:(⟨id,e.toE.row,cs,e.toE.pu&&q⟩:Ax)=(⟨id,st.nx,x⟩:DE T).toE):(st.abx id x).toSt =st.toSt.acN id cs q:=by have:=ZX (t:=st.nx) (x:=x) (F:=fun e=>if e.id==id then⟨e.id,e.row,cs,e.pu&&q⟩else e) (by grind) h.nd hm he (by grind [DE.toE_id]);simp_all [Ai.toSt,Ai.abx,St.acN]
end Go.PL
namespace Go.PL
open Go Go.RowKit
variable {T:Bj}
def lY:Operand->DV T->DV T
 | .const (.slice none 0 0),_=> .c (.c .L_)
 | _,v=>v
def pG:DV T->DV T
 | .c (.c .L_)=> .c (.c (.sl 0 []))
 | v=>v
def WK {α:Type} (i:Nat) (x:α):Nat->List α->List α
 | _,[]=>[]
 | j,a::r=>(if i=j then x else a)::WK i x (j+1) r
theorem lZ {α:Type} {i:Nat} {x:α}: ∀ (l:List α) (j:Nat),j<=i->WK i x j l=l.set (i - j) x
 | [],_,_=>rfl
 | a::r,j,h=>by
   unfold WK;by_cases hj:i=j
   ·subst hj;simp only [if_true,Nat.sub_self,List.set_cons_zero,List.cons.injEq,true_and];have: ∀ (r:List α) (k:Nat),i<k->WK i x k r=r:=by
     intro r;induction r with
     | nil=>intro _ _;rfl
     | cons b r ih=>intro k hk;rw [WK,if_neg (by omega),ih _ (by omega)]
    grind
   ·rw [if_neg hj,lZ r (j+1) (by omega),show i - j=(i - (j+1))+1 by omega,List.set_cons_succ]
def OQ (E:Nat):List (T.den E)->List (DC T)
 | []=>[]
 | x::l=>iN E x++OQ E l
theorem WL (E:Nat): ∀ l:List (T.den E),As (OQ E l)=l.flatMap (T.enc E)
 | []=>by simp [OQ,As]
 | x::l=>by rw [OQ,CK,Gx,WL E l,flatMap_cons]
theorem fJ (E:Nat): ∀ l:List (T.den E),Cf (OQ E l)
 | []=>by simp [OQ,Cf]
 | x::l=>Db (MT E x) (fJ E l)
def Aab (E:Nat) (x:T.den E) (off:Nat) (cs:List (DC T)):Option (T.den E):=match Nat.ble (off+cs.length) (T.sz E)with
 | true=>vx false E ((iN E x).take off++(cs++(iN E x).drop (off+cs.length)))
 | false=>none
def pH (P:Program) (t:TypeId) (d:Option Nat) (st:Ai T) (p v:DV T):M (Ai T):=
 match KP P t with
 | none=> .no
 | some (_,n)=>match p with
   | .c (.c (.ptr id off))=>match K2 st id,v.cells with
     | some ds,some cs=>Ts (Nat.beq cs.length n&&Nat.ble (off+n) ds.length) (.ret ((st.abx id (.box (ds.take off++(cs++ds.drop (off+n))))).put d .u))
     | _,_=> .no
   | .c (.rp id N i off)=>match DO st id,(pG v).cells with
     | some ⟨E,l⟩,some cs=>Ts (Nat.beq N (T.sz E)&&Nat.beq cs.length n) (.opt (idx l i) fun x=>match Aab E x off cs with
       | some x'=> .ret ((st.abx id (.row E (l.set i.toNat x'))).put d .u)
       | none=> .no)
     | _,_=> .no
   | .c (.ap id base m E i off)=>match K2 st id,v.cells with
     | some ds,some cs=>match Lv E m (ds.drop base)with
       | some l=>Ts (Nat.beq cs.length n&&Nat.ble (base+m*T.sz E) ds.length) (.opt (idx l i) fun x=>match Aab E x off cs with
         | some x'=> .ret ((st.abx id (.box (ds.take base++(OQ E (WK i.toNat x' 0 l)++ds.drop (base+m*T.sz E))))).put d .u)
         | none=> .no)
       | none=> .no
     | _,_=> .no
   | _=> .no
def Kc (st:Ai T) (d:Nat) (x:DX T) (v:Ak->DC T):M (Ai T):=match st.new (d::st.pre) x with
 | some s=> .ret (s.put (some d) (.c (v (d::st.pre))))
 | none=> .no
def Rc (P:Program) (t:TypeId):Option (List (DC T)):=
 match P.info? t with
 | some i=>match i.zero with
   | some z=>J5 z.cells.toList
   | none=>none
 | none=>none
def ZY:DC T->DC T
 | .c .L_ => .c (.sl 0 [])
 | c=>c
def UZ:DV T->DV T
 | .c x=> .c (ZY x)
 | .agg cs=> .agg (cs.map ZY)
 | v=>v
def OR (P:Program) (st:Ai T) (d:Nat) (t:TypeId) (len:Nat) (ps:List (Nat×Operand)):M (Ai T):=
 match Fd P t,J9 st [] ps with
 | some (E,n,_),some vs=>match Rc P E with
   | some z=>match WJ (fun i=>some (i*n,n)) ((List.replicate len z).flatMap id) (vs.map fun x=>(x.1,UZ x.2))with
     | some cs=>match Lv E len cs with
       | some l=>Ts (Nat.beq n (T.sz E)&&(Nat.beq z.length n&&(Nat.blt 0 n&&(Nat.ble (len*n) (2 ^ 24)&&Nat.beq cs.length (len*n))))) (Kc st d (.row E l) fun i=> .c (.h_ i))
       | none=> .no
     | none=> .no
   | none=> .no
 | _,_=> .no
def Re (P:Program) (st:Ai T) (d:Nat) (t:TypeId) (l c:Int):M (Ai T):=
 match Fd P t with
 | some (E,n,by')=>match Rc P E with
   | some z=>match vx false E z with
     | some x=>Ts (Nat.beq n (T.sz E)&&(Nat.beq z.length n&&Nat.blt 0 n)) (.opt (n_ (0<=l/\l<=c/\c*by'<=140737488355328/\c<=maxLen)) fun _=>Kc st d (.row E (List.replicate l.toNat x)) fun i=> .c (.h_ i))
     | none=> .no
   | none=> .no
 | none=> .no
def K3:DC T->Option Ak
 | .c (.h_ id)=>some id
 | _=>none
theorem Em {c:DC T} {id:Ak} (h:K3 c=some id):c= .c (.h_ id):=by unfold K3 at h;grind
def Adj (st:Ai T) (E:Nat):DV T->Option (List (T.den E))
 | .c x=>match K3 x with
   | some id=>match DO st id with
     | some ⟨E',l⟩=>IW false (.u_ E) (.k (.u_ E') l)
     | none=>none
   | none=>IW false (.u_ E) x
 | _=>none
def iQ (P:Program) (st:Ai T) (d:Nat) (t:TypeId) (u x:DV T):M (Ai T):=
 match u,Fd P t with
 | .c (.c (.h_ id)),some (E',n,by')=>match DO st id with
   | some ⟨E,l⟩=>match Adj st E x with
     | some m=>Ts (Nat.beq E' E&&(Nat.beq n (T.sz E)&&Nat.blt 0 n)) (.opt (app by' l m) fun r=>match st.new id (.row E r)with
       | some s=> .ret (s.put (some d) (.c (.c (.h_ id))))
       | none=> .no)
     | none=> .no
   | none=> .no
 | _,_=> .no
def t8 (P:Program) (st:Ai T) (o:Oper):M (Ai T):=
 match o.op with
 | .store t x y=>match st.arg [] x,st.arg [] y with
   | some p,some v=>pH P t o.dst st p (lY y v)
   | _,_=> .no
 | op=>match o.dst with
   | none=> .no
   | some d=>match op with
     | .alloc t=>match ZL P t with
       | some cs=>Kc st d (.box cs) fun i=> .c (.ptr i 0)
       | none=> .no
     | .box _ x=>match st.arg [] x with
       | some v=>match v.cells with
         | some cs=>Kc st d (.box cs) fun i=> .c (.ptr i 0)
         | none=> .no
       | none=> .no
     | .assign (.const (.slice none 0 0))=>match DG P o.type with
       | some (E,n)=>Ts (Nat.beq n (T.sz E)) (Kc st d (.row E []) fun i=> .c (.h_ i))
       | none=> .no
     | .buildSlice t len ps=>OR P st d t len ps.toList
     | .makeSlice t l c=>match st.arg [] l,st.arg [] c with
       | some (.c (.k (.int _) l)),some (.c (.k (.int _) c))=>Re P st d t l c
       | _,_=> .no
     | .call c=>match c.callee,c.args.toList,c.argTypes.toList with
       | .builtin .append,[u,x],[t,t']=>match st.arg [] u,st.arg [] x with
         | some a,some b=>Ts (Nat.beq t t') (iQ P st d t a b)
         | _,_=> .no
       | _,_,_=> .no
     | _=> .no
def Ef (H:Aw T) (P:Program) (st:Ai T) (o:Oper) (a_:Ai T):Prop:=
 (∃ H',Nx H st H' a_)/\(ef P st.toSt o).1/\Cn (ef P st.toSt o).2 a_.toSt/\a_.pre=st.pre
section
variable {H:Aw T} {P:Program} {st:Ai T}
theorem Ai.R_ {H:Aw T} {st s:Ai T} {H1:Aw T} (h:Nx H st H1 s) (d:Option Nat) {v:DV T} (hv:v.ok H1 s.nx): ∃ H',Nx H st H' (s.put d v):=by obtain⟨H2,h2⟩:=Ai.aar h.ok d hv;exact⟨H2,h.trans h2⟩
theorem AW (s:Ai T) (d:Option Nat) (v:DV T):(s.put d v).pre =s.pre:=by cases d<;>rfl
theorem Ij {d:Nat} {x:DX T} {v:Ak->DC T} (hw:AJ H st) (hx:x.ok) (hv: ∀ i,(v i).ok):
 Yl (Kc st d x v) (fun a_=>(∃ H',Nx H st H' a_)/\Cn ((st.toSt.new (⟨d::st.pre,0,x⟩:DE T).toE).put (some d) (.c (v (d::st.pre)).toC)) a_.toSt/\a_.pre=st.pre):=by
 unfold Kc;split
 ·rename_i s hs;obtain⟨⟨H',hN⟩,h2,h3⟩:=Ai.acB hw hx hs;refine Yl.ret ⟨Ai.R_ hN _ (by grind [DV.ok]),?_,by rw [AW];exact h3⟩;rw [Ai.k_];exact h2.put _ _
 ·exact Yl.no
theorem ma {v:DV T} {id:Ak} {off:Nat} {e:Ax} (he:st.toSt.look id=some e) (hr:e.row.isSome=true):Xu st.toSt (.c (.ptr id off)) v.toV=(pG v).toV :=by
 unfold pG;split
 ·grind [DV.toV,DC.toC,Xu]
 ·rename_i hne;unfold Xu;split
  ·rename_i hv;exfalso;cases v with
   | c x=>
     cases x with
     | c y=>
       simp only [DV.toV,DC.toC,V.c.injEq]at hv;grind
     | k kd x=>cases kd<;>simp [DV.toV,DC.toC,Bz]at hv
     | clo b f cs=>cases b<;>simp [DV.toV,DC.toC]at hv
     | _=>simp [DV.toV,DC.toC]at hv
   | _=>simp [DV.toV]at hv
  ·rfl
theorem mb {v:V} {id:Ak} {off:Nat} {e:Ax} (he:st.toSt.look id=some e) (hr:e.row=none):Xu st.toSt (.c (.ptr id off)) v=v:=by grind [Xu]
theorem fK {E:Nat} {x x':T.den E} {off:Nat} {cs:List (DC T)} (h:Aab E x off cs=some x'):off+cs.length<=T.sz E/\(T.enc E x).take off++(As cs++(T.enc E x).drop (off+(As cs).length))=T.enc E x':=by
 unfold Aab at h;split at h
 ·rename_i hb;refine⟨by simp_all,?_⟩;rw [<-(Ie h).2 rfl,CK,CK,Jr,F3,Gx,AM]
 ·cases h
theorem pI {l:List C} {a b c:List C} (h:a++(b++c)=l) (hl:Ap l=true):Ap b=true:=by subst h;simp_all [B0]
theorem ua (hw:AJ H st) {t:TypeId} {d:Option Nat} {p v:DV T} (hv:v.ok H st.nx):
 Yl (pH P t d st p v) (fun a_=>(∃ H',Nx H st H' a_)/\(Hc P st.toSt t p.toV (Xu st.toSt p.toV v.toV)).1/\(Hc P st.toSt t p.toV (Xu st.toSt p.toV v.toV)).2.put d .undef =a_.toSt/\a_.pre=st.pre):=by
 unfold pH;split
 ·exact Yl.no
 ·rename_i ag n ht;split
  ·rename_i id off;split
   ·rename_i ds cs hb hc;refine Yl.Ts fun hg=>Yl.ret ?_;simp only [and_eq_true,beq_eq,ble_eq]at hg;obtain⟨hl,_,e,h1,h2,h3⟩:=Hg hb;obtain⟨c1,c2⟩:=DV.acH hc;have hds:=Sq hw hb;have hok:(DX.box (ds.take off++(cs++ds.drop (off+n)))).ok :=Db (US hds _) (Db (c2 hv) (UT hds _));obtain⟨H1,hN⟩:=Ai.abk hw id hok;refine⟨Ai.R_ hN _ (by simp only [DV.ok]),?_⟩;simp only [DV.toV,DC.toC];rw [mb hl rfl];simp only [Hc,c1,ht,hl];refine⟨(by grind [AM]),?_,by rw [AW];rfl⟩;rw [Ai.k_,Ai.aeo hw h1 h2 (cs:=(As ds).take off++As cs++(As ds).drop (off+(As cs).length)) (q:=Ap (As cs))]
    ·simp only [DV.toV]
    ·rw [DE.toE_box h3];simp only [DE.toE,Ax.mk.injEq,Bool.false_and,and_true,true_and];grind [CK,Jr,F3,AM]
   ·exact Yl.no
  ·rename_i id N i off;split
   ·rename_i E l cs hr hc;refine Yl.Ts fun hg=>Yl.opt fun x hx=>?_;simp only [and_eq_true,beq_eq]at hg;obtain⟨hN,hcs⟩:=hg;subst hN;split
    ·rename_i x' hp;obtain⟨p1,p2⟩:=fK hp;obtain⟨hl,_,e,h1,h2,h3⟩:=BU hr;obtain⟨c1,c2⟩:=DV.acH hc;obtain⟨s1,s2⟩:=wl (l:=l) (l':=l.set i.toNat x') (i:=i) (x:=x) (x':=x') (e:=T.enc E) (N:=T.sz E) (o:=off) (base:=0) (cs:=As cs) (pre:=[]) (post:=[]) (off:=i.toNat*T.sz E+off) (c0:=l.flatMap (T.enc E)) (c1:=(l.set i.toNat x').flatMap (T.enc E)) (by simp) rfl (by simp) rfl hx (fun y=>AV E y) (by omega) (by rw [AM];exact p1) p2;obtain⟨H1,hN⟩:=Ai.abk hw id (x:= .row E (l.set i.toNat x')) trivial;refine Yl.ret ⟨Ai.R_ hN _ (by simp only [DV.ok]),?_⟩;simp only [DV.toV,DC.toC];rw [ma hl rfl];simp only [Hc,c1,ht,hl];refine⟨(by grind [AM]),?_,by rw [AW];rfl⟩;rw [s2,Ai.k_,Ai.aeo hw h1 h2 (cs:=(l.set i.toNat x').flatMap (T.enc E)) (q:=Ap (As cs))]
     ·simp only [DV.toV]
     grind [pI,ZD,DE.toE]
    ·exact Yl.no
   ·exact Yl.no
  ·rename_i id base m E i off;split
   ·rename_i ds cs hb hc;split
    ·rename_i l hdr;refine Yl.Ts fun hg=>Yl.opt fun x hx=>?_;simp only [and_eq_true,beq_eq,ble_eq]at hg;split
     ·rename_i x' hp;obtain⟨p1,p2⟩:=fK hp;obtain⟨hl,_,e,h1,h2,h3⟩:=Hg hb;obtain⟨c1,c2⟩:=DV.acH hc;obtain⟨hlen,r,hr⟩:=Ei hdr;rw [F3]at hr;have hfl:(l.flatMap (T.enc E)).length =m*T.sz E:=by grind [BP,AV]
      have aAd:r=(As ds).drop (base+m*T.sz E):=by grind [List.drop_drop,List.drop_left]
      have hs:WK i.toNat x' 0 l=l.set i.toNat x':=by simp_all [lZ]
      have hle:base<=(As ds).length :=by rw [AM];omega
      obtain⟨s1,s2⟩:=wl (l:=l) (l':=l.set i.toNat x') (i:=i) (x:=x) (x':=x') (e:=T.enc E) (N:=T.sz E) (o:=off) (base:=base) (cs:=As cs) (pre:=(As ds).take base) (post:=r) (off:=base+i.toNat*T.sz E+off) (c0:=As ds) (c1:=(As ds).take base++((l.set i.toNat x').flatMap (T.enc E)++r))
       (by grind [List.take_append_drop]) (by grind) rfl rfl hx (fun y=>AV E y) (by omega) (by rw [AM];exact p1) p2
      have hds:=Sq hw hb;have hok:(DX.box (ds.take base++(OQ E (WK i.toNat x' 0 l)++ds.drop (base+m*T.sz E)))).ok :=Db (US hds _) (Db (fJ _ _) (UT hds _));obtain⟨H1,hN⟩:=Ai.abk hw id hok;refine Yl.ret ⟨Ai.R_ hN _ (by simp only [DV.ok]),?_⟩;simp only [DV.toV,DC.toC];rw [mb hl rfl];simp only [Hc,c1,ht,hl];refine⟨(by grind [AM]),?_,by rw [AW];rfl⟩;rw [s2,Ai.k_,Ai.aeo hw h1 h2 (cs:=(As ds).take base++((l.set i.toNat x').flatMap (T.enc E)++r)) (q:=Ap (As cs))]
      ·simp only [DV.toV]
      ·rw [DE.toE_box h3];simp only [DE.toE,Ax.mk.injEq,Bool.false_and,and_true,true_and];grind [CK,Jr,F3,WL]
     ·exact Yl.no
    ·exact Yl.no
   ·exact Yl.no
  ·exact Yl.no
end
end Go.PL
namespace Go.PL
open Go Go.RowKit
variable {T:Bj}
section
variable {H:Aw T} {P:Program} {st:Ai T}
theorem Ke (hw:AJ H st) {x:Operand} {v:DV T} (h:st.arg [] x=some v):v.ok H st.nx/\(st.toSt.arg true x).1/\(st.toSt.arg true x).2=v.toV:=
 Ai.aee (key:=[]) hw (fun _ hl=>by cases hl) h rfl
theorem Ik {t:TypeId} {cs:List (DC T)} (h:Rc P t=some cs):Qw P t=some (As cs)/\Cf cs:=by grind [Rc,Qw,OJ]
theorem Sx {α:Type} (f:α->List (DC T)): ∀ l:List α,As (l.flatMap f)=l.flatMap (fun x=>As (f x))
 | []=>by simp [As]
 | a::l=>by rw [flatMap_cons,CK,Sx f l,flatMap_cons]
theorem Rf (z:List (DC T)) (hz:0<z.length) (n:Nat):As ((List.replicate n z).flatMap id)=Cj (As z) n:=by rw [Sx,fq (fun x:List (DC T)=>As x) z rfl (by rw [AM];exact hz)];rfl
theorem ZZ (c:DC T):(ZY c).toC =G5 c.toC:=by
 unfold ZY;split
 ·rfl
 ·rename_i hne;cases c with
  | c x=>
    cases x with
    | L_=>grind
    | _=>rfl
  | k kd x=>cases kd<;>rfl
  | clo b f cs=>cases b<;>simp [DC.toC,G5]
  | _=>simp [DC.toC,G5]
theorem pJ (v:DV T):(UZ v).toV =v.toV.ae5:=by cases v<;>simp_all [UZ,DV.toV,V.ae5,ZZ,CG]
theorem Z0 (vs:List (Nat×DV T)):wP (vs.map fun x=>(x.1,UZ x.2))=(wP vs).map Wj:=by simp_all [wP,Wj,pJ]
theorem Z1 (hw:AJ H st) {d:Nat} {t:TypeId} {len:Nat} {ps:List (Nat×Operand)}:
 Yl (OR P st d t len ps) (fun a_=>(∃ H',Nx H st H' a_)/\(By P st.toSt d t len ps).1/\Cn (By P st.toSt d t len ps).2 a_.toSt/\a_.pre=st.pre):=by
 unfold OR;split
 ·rename_i E n by' vs hs hp;split
  ·rename_i z hz;split
   ·rename_i cs hf;split
    ·rename_i l hl;refine Yl.Ts fun hg=>(Ij hw (x:= .row E l) (by exact trivial) (fun _=>by simp only [DC.ok])).mono fun a_ h=>?_;simp only [and_eq_true,beq_eq,blt_eq,ble_eq]at hg;obtain⟨g1,g2,g3,g4,g5⟩:=hg;subst g1;obtain⟨h1,h2,h3⟩:=h;obtain⟨p1,p2,p3⟩:=Ih (key:=[]) hw (fun _ hl=>by cases hl) rfl hp;obtain⟨z1,z2⟩:=Ik hz;obtain⟨f1,_⟩:=Ka hf;rw [Rf z (by omega),Z0]at f1;obtain⟨hlen,r,hr⟩:=Ei hl;have hrn:r=[]:=by have:=congrArg List.length hr;grind [AM,BP,AV,List.length_eq_zero_iff]
     subst hrn;rw [List.append_nil]at hr;refine⟨h1,?_⟩;change (st.toSt.parts true ps).1 at p2;change (st.toSt.parts true ps).2=wP vs at p3;simp only [By,hs,z1,p3,f1];refine⟨(by simp_all [AM]),?_,h3⟩;rw [hr,tX];simp only [DE.toE,hlen,DC.toC]at h2;exact h2
    ·exact Yl.no
   ·exact Yl.no
  ·exact Yl.no
 ·exact Yl.no
theorem dv (hw:AJ H st) {d:Nat} {t:TypeId} {l c:Int} {k k':IntKind}:
 Yl (Re P st d t l c) (fun a_=>(∃ H',Nx H st H' a_)/\(KX P st.toSt d t (.c (.int k l)) (.c (.int k' c))).1/\Cn (KX P st.toSt d t (.c (.int k l)) (.c (.int k' c))).2 a_.toSt/\a_.pre=st.pre):=by
 unfold Re;split
 ·rename_i E n by' hs;split
  ·rename_i z hz;split
   ·rename_i x hx;refine Yl.Ts fun hg=>Yl.opt fun u hu=>(Ij hw (x:= .row E (List.replicate l.toNat x)) (by exact trivial) (fun _=>by simp only [DC.ok])).mono fun a_ h=>?_;simp only [and_eq_true,beq_eq,blt_eq]at hg;obtain⟨g1,g2,g3⟩:=hg;subst g1;obtain⟨h1,h2,h3⟩:=h;obtain⟨z1,z2⟩:=Ik hz;obtain⟨n1,n2,n3,n4⟩:=Cz hu;refine⟨h1,?_⟩;simp only [KX,hs,z1];refine⟨(by simp_all [AM]),?_,h3⟩;have hzx:=(Ie hx).2 rfl;have:=fq (T.enc E) x hzx (by rw [AM];omega) l.toNat
    rw [this];simp only [DE.toE,List.length_replicate,DC.toC]at h2;exact h2
   ·exact Yl.no
  ·exact Yl.no
 ·exact Yl.no
theorem ub {E:Nat} {x:DV T} {m:List (T.den E)} (h:Adj st E x=some m):Sa st.toSt (T.sz E) x.toV=some (m.length,m.flatMap (T.enc E),true):=by
 have hl: ∀ {E':Nat} {l:List (T.den E')} {m:List (T.den E)},IW (T:=T) false (.u_ E) (.k (.u_ E') l)=some m->(C.sl l.length (l.flatMap (T.enc E'))=C.sl m.length (m.flatMap (T.enc E)))/\T.sz E'=T.sz E/\l.length=m.length:=by
  intro E' l m hc;unfold IW at hc;simp only at hc;split at hc
  all_goals grind
 unfold Adj at h;split at h
 ·rename_i y;split at h
  ·rename_i id ho;have:=Em ho;subst this;split at h
   ·rename_i E' l hr;obtain⟨a,b,c⟩:=hl h;injection a with a1 a2;simp only [DV.toV,DC.toC,Sa,(BU hr).1,b,if_true];rw [a1,a2]
   ·cases h
  ·have:=(CR h).2 rfl;simp only [Bz]at this;simp only [DV.toV,this,Sa];rw [if_pos (BP (fun y=>AV E y) m)]
 ·cases h
theorem pK (hw:AJ H st) {d:Nat} {t:TypeId} {u x:DV T}:
 Yl (iQ P st d t u x) (fun a_=>(∃ H',Nx H st H' a_)/\(Gr P st.toSt d t u.toV x.toV).1/\Cn (Gr P st.toSt d t u.toV x.toV).2 a_.toSt/\a_.pre=st.pre):=by
 unfold iQ;split
 ·rename_i id E' n by' hs;split
  ·rename_i E l hr;split
   ·rename_i m hm;refine Yl.Ts fun hg=>Yl.opt fun r hra=>?_;simp only [and_eq_true,beq_eq,blt_eq]at hg;obtain⟨g1,g2,g3⟩:=hg;subst g1 g2;split
    ·rename_i s hn;obtain⟨⟨H',hN⟩,h2,h3⟩:=Ai.acB hw (x:= .row E' r) trivial hn;refine Yl.ret ⟨Ai.R_ hN _ (by simp only [DV.ok,DC.ok]),?_⟩;have hb:=LT hra;have hx:=Ab5 hra;simp only [DV.toV,DC.toC,Gr,hs,(BU hr).1,ub hm,true_and];refine⟨⟨g3,hb.1,hb.2⟩,?_,by rw [AW];exact h3⟩;rw [Ai.k_];simp only [DE.toE,hx,List.length_append,List.flatMap_append]at h2;simp only [DV.toV,DC.toC,Bool.and_self];exact h2.put _ _
    ·exact Yl.no
   ·exact Yl.no
  ·exact Yl.no
 ·exact Yl.no
theorem YD (hw:AJ H st) (o:Oper):Yl (t8 P st o) (Ef H P st o):=by
 have A: ∀ {x:Operand} {v:DV T},st.arg [] x=some v->v.ok H st.nx/\(st.toSt.arg true x).1/\(st.toSt.arg true x).2=v.toV:=fun h=>Ke hw h;obtain⟨dst,op,ty,pos,aft,gd⟩:=o;unfold t8;simp only;split
 ·rename_i t x y;split
  ·rename_i p v hp hv;obtain⟨a1,a2,a3⟩:=A hp;obtain⟨b1,b2,b3⟩:=A hv;have e:(lY y v).toV =oQ y v.toV:=by unfold lY oQ;grind [DV.toV,DC.toC]
   have hok:(lY y v).ok H st.nx:=by unfold lY;grind [DV.ok,DC.ok]
   refine(ua hw hok).mono fun a_ h=>?_;obtain⟨h1,h2,h3,h4⟩:=h;refine⟨h1,?_,?_,h4⟩
   all_goals grind [PL.ef,Cn.refl]
  ·exact Yl.no
 ·rename_i hns;split
  ·exact Yl.no
  ·rename_i d;split
   ·rename_i t;split
    ·rename_i cs hz;obtain⟨z1,z2⟩:=OM hz;refine(Ij hw (x:= .box cs) z2 (fun _=>by simp only [DC.ok])).mono fun a_ h=>?_;obtain⟨h1,h2,h3⟩:=h;refine⟨h1,?_,?_,h3⟩
     ·simp only [PL.ef,z1]
     ·simp only [PL.ef,z1];simp only [DE.toE,DC.toC]at h2;exact h2
    ·exact Yl.no
   ·rename_i t x;split
    ·rename_i v hv;split
     ·rename_i cs hc;obtain⟨b1,b2,b3⟩:=A hv;obtain⟨c1,c2⟩:=DV.acH hc;refine(Ij hw (x:= .box cs) (c2 b1) (fun _=>by simp only [DC.ok])).mono fun a_ h=>?_;obtain⟨h1,h2,h3⟩:=h;refine⟨h1,?_,?_,h3⟩
      ·simp_all [PL.ef]
      ·simp only [PL.ef,b3,c1];simp only [DE.toE,DC.toC]at h2;exact h2
     ·exact Yl.no
    ·exact Yl.no
   ·split
    ·rename_i E n hs;refine Yl.Ts fun hg=>(Ij hw (x:= .row E []) (by exact trivial) (fun _=>by simp only [DC.ok])).mono fun a_ h=>?_;have hg:=Nat.eq_of_beq_eq_true hg;subst hg;obtain⟨h1,h2,h3⟩:=h;refine⟨h1,?_,?_,h3⟩
     ·simp only [PL.ef,hs]
     ·simp only [PL.ef,hs];simp only [DE.toE,DC.toC,List.length_nil,List.flatMap_nil]at h2;exact h2
    ·exact Yl.no
   ·rename_i t len ps;refine(Z1 hw).mono fun a_ h=>?_;obtain⟨h1,h2,h3,h4⟩:=h;exact⟨h1,by simpa only [PL.ef] using h2,by simpa only [PL.ef] using h3,h4⟩
   ·rename_i t l c;split
    ·rename_i k l' k' c' hl hc;obtain⟨a1,a2,a3⟩:=A hl;obtain⟨b1,b2,b3⟩:=A hc;simp only [DV.toV,DC.toC,Bz]at a3 b3;refine(dv hw (k:=k) (k':=k')).mono fun a_ h=>?_;obtain⟨h1,h2,h3,h4⟩:=h;refine⟨h1,?_,?_,h4⟩
     all_goals grind [PL.ef]
    ·exact Yl.no
   ·rename_i c;split
    ·rename_i u x t t' afx acQ aqI;split
     ·rename_i a b ha hb;obtain⟨a1,a2,a3⟩:=A ha;obtain⟨b1,b2,b3⟩:=A hb;refine Yl.Ts fun hg=>(pK hw).mono fun a_ h=>?_;have hg:=Nat.eq_of_beq_eq_true hg;obtain⟨h1,h2,h3,h4⟩:=h;refine⟨h1,?_,?_,h4⟩
      all_goals grind [PL.ef]
     ·exact Yl.no
    ·exact Yl.no
   ·exact Yl.no
end
end Go.PL
namespace Go.PL
open Go Go.RowKit
structure OE where
 dp:Bool
 E:TypeId
 n:Nat
 len:Nat
 cs:List C
def OE.ent (o:OE) (id:Ak):Ax:=⟨id,some (o.E,o.n,o.len),o.cs,true⟩
def CU:List OE->List Ak->List Ax
 | o::os,i::is=>o.ent i::CU os is
 | _,_=>[]
def KL:List OE->List Ak->Bool
 | [],[]=>true
 | o::os,i::is=>(Fj i==o.dp&& !Dh i)&&KL os is
 | _,_=>false
inductive PC where
 | c (x:C)
 | o (j:Nat)
def PC.toC (ids:List Ak):PC->C
 | .c x=>x
 | .o j=> .h_ (ids.getD j [])
inductive PP where
 | c (x:PC)
 | a (cs:List PC)
def PP.toV (ids:List Ak):PP->V
 | .c x=> .c (x.toC ids)
 | .a cs=> .agg (cs.map (PC.toC ids))
def Om (ids:List Ak):List PP->V
 | [p]=>p.toV ids
 | ps=> .tup (ps.map (PP.toV ids))
def PC.ok (m:Nat):PC->Bool
 | .c x=>x.pure
 | .o j=>Nat.blt j m
def PP.ok (m:Nat):PP->Bool
 | .c x=>x.ok m
 | .a cs=>cs.all (PC.ok m)
structure MV (P:Program) (I:World->Prop) (f:FuncId) (args:List V) (outs:List OE) (ps:List PP):Prop where
 ent:ent P f=true
 pok:ps.all (PP.ok outs.length)=true
 run: ∀ (w:World) (vs:Array Value) (av:Nat->Prop),I w->(∀ b,av b->b<w.heap.size)->Aq w (im av) args vs.toList->
  Calls P f vs w (fun e w'=> ∃ v ids G',e= .returned v/\KL outs ids=true/\ids.Nodup/\Ae w' G' (Om ids ps) v/\
   (∀ e∈CU outs ids,Be w' G' e/\BA w' G' e/\Ap e.cs=true)/\(∀ i j b,G'.p_ i=some b->G'.p_ j=some b->i=j)/\
   (∀ i b,G'.p_ i=some b->w.heap.size<=b/\b<w'.heap.size)/\(∀ b,G'.wr b↔av b\/ ∃ i,G'.p_ i=some b)/\Below w.heap.size w w')
def reN (o i:Ak):Ak:=match i with
 | _::k::_=>B9 k o
 | _=>o
def Lw:List Ak->List Ak->Ak->Option Ak
 | n::ns,o::os,i=>if i=n then some o else if EL n i=true then some (reN o i)else Lw ns os i
 | _,_,_=>none
def LL (ns:List Ak) (i:Ak):Bool:=ns.any fun n=>i==n||EL n i
theorem Adk (o n:Ak) (k:Nat):reN o (B9 k n)=B9 k o:=rfl
theorem uc {ns os:List Ak} {i:Ak} (hl:ns.length=os.length) (h:LL ns i=false):Lw ns os i=none:=by
 induction ns generalizing os with
 | nil=>rfl
 | cons n ns ih=>
   cases os<;>simp_all [LL,Lw]
theorem mc {ns os:List Ak} {i a:Ak} (h:Lw ns os i=some a): ∃ (j:Nat) (n o:Ak),ns[j]? =some n/\os[j]? =some o/\(i=n/\a=o\/ ∃ k,i=B9 k n/\a=B9 k o):=by
 induction ns generalizing os with
 | nil=>simp [Lw]at h
 | cons n ns ih=>
   cases os with
   | nil=>simp [Lw]at h
   | cons o os=>
     simp only [Lw]at h;split at h
     ·rename_i he;injection h with h;exact⟨0,n,o,rfl,rfl, .inl ⟨he,h.symm⟩⟩
     ·split at h
      ·rename_i he;obtain⟨k,rfl⟩:=rH he;injection h with h;exact⟨0,n,o,rfl,rfl, .inr ⟨k,rfl,h.symm⟩⟩
      ·obtain⟨j,n',o',h1,h2,h3⟩:=ih h;exact⟨j+1,n',o',h1,h2,h3⟩
theorem Aac {ns os:List Ak} {j:Nat} {n o:Ak} (hn:ns.Nodup) (hmk: ∀ n∈ns,Dh n=false) (h1:ns[j]? =some n) (h2:os[j]? =some o):Lw ns os n=some o/\ ∀ k,Lw ns os (B9 k n)=some (B9 k o):=by
 induction ns generalizing os j with
 | nil=>simp at h1
 | cons m ns ih=>
   cases os with
   | nil=>simp at h2
   | cons q os=>
     simp only [nodup_cons]at hn;cases j with
     | zero=>
       simp only [List.getElem?_cons_zero,injEq]at h1 h2;subst h1 h2;refine⟨by simp [Lw],fun k=>?_⟩;simp only [Lw];rw [if_neg (fun e=>by have:=hmk m (by simp);rw [<-e]at this;cases this),if_pos (by rw [JX];simp),Adk]
     | succ j=>
       simp only [List.getElem?_cons_succ]at h1 h2;have hm:n∈ns:=(by grind);have hne:n ≠ m:=(by grind);obtain⟨a,b⟩:=ih hn.2 (fun x hx=>hmk x (by simp [hx])) h1 h2;have hmn:=hmk n (by simp [hm]);refine⟨?_,fun k=>?_⟩
       ·simp only [Lw];rw [if_neg hne,if_neg (fun e=>by obtain⟨k,rfl⟩:=rH e;cases hmn)];exact a
       ·simp only [Lw];rw [if_neg (fun e=>by have:=hmk m (by simp);rw [<-e]at this;cases this),if_neg (fun e=>by rw [JX]at e;exact hne (by simpa using e))];exact b k
theorem Adl {α:Type} {l:List α} (h:l.Nodup) {i j:Nat} {x:α} (hi:l[i]? =some x) (hj:l[j]? =some x):i=j:=by grind [List.pairwise_iff_getElem]
theorem wU {ns os:List Ak} {i j a:Ak} (hn:ns.Nodup) (ho:os.Nodup) (hmo: ∀ o∈os,Dh o=false) (h1:Lw ns os i=some a) (h2:Lw ns os j=some a):i=j:=by
 obtain⟨p,n,o,a1,a2,a3⟩:=mc h1;obtain⟨q,n',o',b1,b2,b3⟩:=mc h2;have key:o=o'->p=q:=(by grind [Adl]);have m1:=hmo o (mem_of_getElem? a2);have m2:=hmo o' (mem_of_getElem? b2);rcases a3 with ⟨rfl,rfl⟩ | ⟨k,rfl,rfl⟩<;>rcases b3 with ⟨rfl,e⟩ | ⟨k',rfl,e⟩
 ·grind
 ·rw [e]at m1;cases m1
 ·rw [<-e]at m2;cases m2
 grind [R3]
theorem Jt: ∀ {outs:List OE} {ids:List Ak},KL outs ids=true->ids.length=outs.length/\(∀ i∈ids,Dh i=false)/\ ∀ (j:Nat) (o:OE) (i:Ak),outs[j]? =some o->ids[j]? =some i->Fj i=o.dp
 | [],[],_=>(by grind)
 | [],_::_,h=>by simp [KL]at h
 | _::_,[],h=>by simp [KL]at h
 | o::os,i::is,h=>by simp only [KL,and_eq_true,beq_iff_eq,not_eq_true']at h;obtain⟨a,b,c⟩:=Jt h.2;grind
theorem U0: ∀ {outs:List OE} {ids:List Ak} {e:Ax},e∈CU outs ids-> ∃ (j:Nat) (o:OE) (i:Ak),outs[j]? =some o/\ids[j]? =some i/\e=o.ent i
 | [],_,_,h=>by simp [CU]at h
 | _::_,[],_,h=>by simp [CU]at h
 | o::os,i::is,e,h=>by
   simp only [CU,mem_cons]at h;rcases h with rfl | h
   ·exact⟨0,o,i,rfl,rfl,rfl⟩
   ·obtain⟨j,o',i',a,b,c⟩:=U0 h;exact⟨j+1,o',i',by grind,by grind,c⟩
theorem Z2: ∀ {outs:List OE} {ids:List Ak} {j:Nat} {o:OE} {i:Ak},outs[j]? =some o->ids[j]? =some i->o.ent i∈CU outs ids
 | [],_,_,_,_,h,_=>by simp at h
 | _::_,[],_,_,_,_,h=>by simp at h
 | o::os,i::is,0,o',i',h1,h2=>by grind [CU]
 | o::os,i::is,j+1,o',i',h1,h2=>by simp only [CU,mem_cons];exact .inr (Z2 (by simpa using h1) (by simpa using h2))
theorem fL: ∀ {outs:List OE} {ids:List Ak},ids.length=outs.length->(CU outs ids).map (·.id)=ids
 | [],[],_=>rfl
 | [],_::_,h=>by simp at h
 | _::_,[],h=>by simp at h
 | o::os,i::is,h=>by simp only [CU,map_cons,OE.ent,fL (outs:=os) (ids:=is) (by simpa using h)]
theorem Cl.sub {G G':AG} {w:World} (h: ∀ b,b<w.heap.size->G'.wr b->G.wr b):Cl G G' w w:=⟨le_refl _,fun _ _ _=>rfl,h,fun _ _ _ _=>Cg.same rfl⟩
theorem Aci {w:World} {G G':AG} {ids ns:List Ak} {m:Nat} (hk:Cl G G' w w) (hl:ids.length=m) (ho: ∀ (j:Nat) (i n:Ak),ids[j]? =some i->ns[j]? =some n->G'.own n=G.own i) (hl2:ns.length=m) {p:PC} (hp:p.ok m=true) {v:Value} (h:Ah w G (p.toC ids) v):Ah w G' (p.toC ns) v:=by
 cases p with
 | c x=>exact Ah.mono hk x v (fun i hi=>absurd (show x.s_ i=true from hi) (by rw [H7 i x hp];simp)) h
 | o j=>
   grind [PC.ok,blt_eq,PC.toC,Ah]
theorem Acj {w:World} {G G':AG} {ids ns:List Ak} {m:Nat} (hk:Cl G G' w w) (hl:ids.length=m) (ho: ∀ (j:Nat) (i n:Ak),ids[j]? =some i->ns[j]? =some n->G'.own n=G.own i) (hl2:ns.length=m): ∀ {ps:List PC} {vs:List Value},ps.all (PC.ok m)=true->Al w G (ps.map (PC.toC ids)) vs->Al w G' (ps.map (PC.toC ns)) vs
 | [],[],_,_=>by simp [Al]
 | [],_::_,_,h=>by simp [Al]at h
 | _::_,[],_,h=>by simp [Al]at h
 | p::ps,v::vs,hp,h=>by simp only [all_cons,and_eq_true]at hp;simp only [map_cons,Al]at h ⊢;exact⟨Aci hk hl ho hl2 hp.1 h.1,Acj hk hl ho hl2 hp.2 h.2⟩
theorem Ack {w:World} {G G':AG} {ids ns:List Ak} {m:Nat} (hk:Cl G G' w w) (hl:ids.length=m) (ho: ∀ (j:Nat) (i n:Ak),ids[j]? =some i->ns[j]? =some n->G'.own n=G.own i) (hl2:ns.length=m) {p:PP} (hp:p.ok m=true) {v:Value} (h:Ae w G (p.toV ids) v):Ae w G' (p.toV ns) v:=by
 cases p with
 | c x=>simp only [PP.toV,Ae]at h ⊢;exact Aci hk hl ho hl2 hp h
 | a cs=>
   simp only [PP.toV,Ae]at h ⊢;obtain⟨arr,e,h⟩:=h;exact⟨arr,e,Acj hk hl ho hl2 hp h⟩
theorem pL {w:World} {G G':AG} {ids ns:List Ak} {m:Nat} (hk:Cl G G' w w) (hl:ids.length=m) (ho: ∀ (j:Nat) (i n:Ak),ids[j]? =some i->ns[j]? =some n->G'.own n=G.own i) (hl2:ns.length=m): ∀ {ps:List PP} {vs:List Value},ps.all (PP.ok m)=true->Aq w G (ps.map (PP.toV ids)) vs->Aq w G' (ps.map (PP.toV ns)) vs
 | [],vs,_,h=>by simpa [Aq] using h
 | p::ps,vs,hp,h=>by simp only [all_cons,and_eq_true]at hp;simp only [map_cons,Aq]at h ⊢;obtain⟨v,r,e,h1,h2⟩:=h;exact⟨v,r,e,Ack hk hl ho hl2 hp.1 h1,pL hk hl ho hl2 hp.2 h2⟩
theorem Adm {w:World} {G G':AG} {ids ns:List Ak} {m:Nat} (hk:Cl G G' w w) (hl:ids.length=m) (ho: ∀ (j:Nat) (i n:Ak),ids[j]? =some i->ns[j]? =some n->G'.own n=G.own i) (hl2:ns.length=m) {ps:List PP} (hp:ps.all (PP.ok m)=true) {v:Value} (h:Ae w G (Om ids ps) v):Ae w G' (Om ns ps) v:=by
 match ps,hp,h with
 | [p],hp,h=>
   simp only [all_cons,all_nil,Bool.and_true]at hp;exact Ack hk hl ho hl2 hp h
 | [],hp,h=>
   grind [Om,Ae,pL]
 | p::q::ps,hp,h=>
   grind [Om,Ae,pL]
theorem rY {w:World} {G G':AG} (hk:Cl G G' w w) {i n:Ak} {r:TypeId×Nat×Nat} {cs:List C} (hp:Ap cs=true) (hb:G'.p_ n=G.p_ i) (ho:G'.own n=G.own i) (h:Be w G ⟨i,some r,cs,true⟩):Be w G' ⟨n,some r,cs,true⟩:=by
 obtain⟨E,m,len⟩:=r;unfold Be at *;obtain⟨hl,v,h1,h2⟩:=h;refine⟨hl,v,by grind,?_⟩;rcases h2 with ⟨p,e1,e2,e3⟩ | ⟨b,cap,cur,e1,e2,e3,e4,e5,e6,e7⟩
 ·grind
 ·exact .inr ⟨b,cap,cur,e1,by grind,e3,e4,e5,e6,An.mono hk _ _ _ (fun i hi=>absurd (show BS i cs=true from hi) (by rw [AQ i cs hp];simp)) (fun _=>rfl) e7⟩
end Go.PL
namespace Go.PL
open Go Go.RowKit
section
variable {F:Fr} {st:St} {a:Act} {w w':World} {G Gc:AG}
def Kf (F:Fr) (G Gc:AG) (ns ids:List Ak):AG where
 p_:=fun i=>match Lw ns ids i with | some a=>Gc.p_ a | none=>G.p_ i
 own:=fun i=>match Lw ns ids i with | some a=>Gc.own a | none=>G.own i
 wr:=fun x=>F.av x\/ ∃ i,(match Lw ns ids i with | some a=>Gc.p_ a | none=>G.p_ i)=some x
theorem R.arl (h:R F st a w G) (hb:Below w.heap.size w w') {outs:List OE} {ids ns:List Ak} {av:Nat->Prop} (hav: ∀ b,G.wr b->av b) (aiq:KL outs ids=true) (hnd:ids.Nodup) (hns:KL outs ns=true) (hnn:ns.Nodup)
 (hE: ∀ e∈CU outs ids,Be w' Gc e/\BA w' Gc e/\Ap e.cs=true) (aqT: ∀ i j b,Gc.p_ i=some b->Gc.p_ j=some b->i=j) (hfr: ∀ i b,Gc.p_ i=some b->w.heap.size<=b/\b<w'.heap.size) (hwr: ∀ b,Gc.wr b↔av b\/ ∃ i,Gc.p_ i=some b):
 R F (st.e_ (LL ns) (CU outs ns++(st.so.filter fun e=> !(LL ns e.id)).map (Ax.e_ (LL ns)))) a w' (Kf F G Gc ns ids)/\Cl Gc (Kf F G Gc ns ids) w' w'/\
   ∀ (j:Nat) (i n:Ak),ids[j]? =some i->ns[j]? =some n->(Kf F G Gc ns ids).own n=Gc.own i:=by
 obtain⟨l1,m1,d1⟩:=Jt aiq;obtain⟨l2,m2,d2⟩:=Jt hns;have aAh: ∀ i,LL ns i=false->Lw ns ids i=none:=fun i hi=>uc (by omega) hi;have hin: ∀ (j:Nat) (i n:Ak),ids[j]? =some i->ns[j]? =some n->Lw ns ids n=some i/\ ∀ k,Lw ns ids (B9 k n)=some (B9 k i):=(by grind [Aac]);have sub: ∀ b,(Kf F G Gc ns ids).wr b->Gc.wr b:=fun b hw=>by
  rw [hwr];simp only [Kf]at hw;rcases hw with q | ⟨i,q⟩
  ·exact .inl (hav b ((h.wr b).2 (.inl q)))
  ·split at q
   ·grind
   ·exact .inl (hav b ((h.wr b).2 (.inr ⟨i,q⟩)))
 have hk:Cl Gc (Kf F G Gc ns ids) w' w':=Cl.sub (by grind);have t:abb F (LL ns) (fun _=>false) G (Kf F G Gc ns ids) w w':={
  agree:=(by simp_all [Kf])
  same:=fun i b _ hib=>hb.block b (h.lt i b hib)
  keeps:=⟨hb.size,fun b hb' _=>hb.block b hb',fun b hb' hw=>by simp only [Kf]at hw;rw [h.wr];grind,fun i b q1 _=>Cg.same (hb.block b (h.lt i b q1))⟩
  outer:=Ee hb
  ext:=fun b hb' _=>hb.block b (Nat.lt_of_lt_of_le hb' h.x_)
  wr:=fun b=>Iff.rfl
  inj:=fun i j b q1 q2=>by
   simp only [Kf]at q1 q2;split at q1<;>split at q2
   ·grind [wU]
   ·have a1:=hfr _ _ q1;have a2:=h.lt _ _ q2;omega
   ·have a1:=hfr _ _ q2;have a2:=h.lt _ _ q1;omega
   ·exact h.inj _ _ _ q1 q2
  lt:=fun i b q=>by
   simp only [Kf]at q;split at q
   ·grind
   ·exact Nat.lt_of_lt_of_le (h.lt _ _ q) hb.size
  new:=fun i b q=>by
   simp only [Kf]at q;split at q
   ·exact .inl (Nat.le_trans h.x_ (hfr _ _ q).1)
   ·exact h.new _ _ q}
 have aaz: ∀ (j:Nat) (i n:Ak),ids[j]? =some i->ns[j]? =some n->(Kf F G Gc ns ids).own n=Gc.own i:=(by grind [Kf]);have abn: ∀ (j:Nat) (i n:Ak),ids[j]? =some i->ns[j]? =some n->(Kf F G Gc ns ids).p_ n=Gc.p_ i:=(by grind [Kf]);have new: ∀ e∈CU outs ns,Be w' (Kf F G Gc ns ids) e/\BA w' (Kf F G Gc ns ids) e/\Ap e.cs=true:=by
  intro e he;obtain⟨j,o,n,q1,q2,rfl⟩:=U0 he;have hj:j<ids.length:=by grind
  obtain⟨i,q3⟩: ∃ i,ids[j]? =some i:=(by grind);obtain⟨e1,e2,e3⟩:=hE _ (Z2 q1 q3);have hb1:=abn j i n q3 q2;have ho1:=aaz j i n q3 q2;refine⟨rY hk e3 hb1 ho1 e1,⟨m2 n (mem_of_getElem? q2),fun hd=>⟨rfl,rfl,?_⟩⟩,e3⟩;have hdi:Fj i=true:=by rw [d1 j o i q1 q3, <-d2 j o n q1 q2];exact hd
  obtain⟨_,_,hI⟩:=e2.2 hdi;intro k E n' len cs hc;obtain⟨p1,p2,b,v,p3,p4,p5⟩:=hI k E n' len cs hc;have hm:=(hin j i n q3 q2).2 k;have hbm:(Kf F G Gc ns ids).p_ (B9 k n)=Gc.p_ (B9 k i):=by simp only [Kf,hm]
  have hom:(Kf F G Gc ns ids).own (B9 k n)=Gc.own (B9 k i):=by simp only [Kf,hm]
  exact⟨p1,rY hk p1 hbm hom p2,b,v,hb1.trans p3,p4,hom.trans p5⟩
 have hold: ∀ e∈(st.so.filter fun e=> !(LL ns e.id)).map (Ax.e_ (LL ns)), ∃ d∈st.so,LL ns d.id=false/\e=d.e_ (LL ns):=by grind
 have hdk: ∀ d∈st.so,LL ns d.id=false->Fj d.id=true-> ∀ k,LL ns (B9 k d.id)=false/\(fun _=>false:Ak->Bool) (B9 k d.id)=false:=by
  intro d hd hp hD k;refine⟨?_,rfl⟩;cases hq:LL ns (B9 k d.id)with
  | false=>rfl
  | true=>
    obtain⟨n,hn,hq⟩:=any_eq_true.1 hq;simp only [or_eq_true,beq_iff_eq]at hq;rcases hq with hq | hq
    ·have:=m2 n hn;rw [<-hq]at this;cases this
    simp_all [JX,LL]
 refine⟨t.afP h _ (fun e he=>?_) (fun e he=>?_) (fun e he=>?_) ?_,hk,aaz⟩
 ·rcases mem_append.1 he with he | he
  ·grind
  ·obtain⟨d,h1,h2,rfl⟩:=hold e he;exact t.ent h h1 h2 rfl
 ·rcases mem_append.1 he with he | he
  ·grind
  ·obtain⟨d,h1,h2,rfl⟩:=hold e he;exact t.deep h h1 h2 rfl (hdk d h1 h2)
 ·rcases mem_append.1 he with he | he
  ·grind
  ·obtain⟨d,h1,h2,rfl⟩:=hold e he;exact QY (h.B_ d h1)
 ·rw [map_append,fL l2,map_map];have e1:(fun e:Ax=>e.id) ∘ Ax.e_ (LL ns)=fun e=>e.id:=by grind [Ax.E_]
  rw [e1];refine List.nodup_append.2 ⟨hnn,List.Sublist.nodup (by grind [List.filter_sublist]) h.nodup,fun x hx y hy=>?_⟩;obtain⟨d,hd,rfl⟩:=mem_map.1 hy;grind [LL]
theorem DW.aue {P:Program} {I:World->Prop} {o:Oper} {K:St->Prop} {f:FuncId} {xs:List Operand} {outs:List OE} {ps:List PP} (d:Nat)
 (hk:Ck o.op= .call f xs) (hd:o.dst=some d) (ha:(st.args true xs).1) (hp:Ci ((st.args true xs).2.map (BC st))=true) (ath:CY (st.args true xs).2=[])
 (hc:MV P I f ((st.args true xs).2.map (BC st)) outs ps) {ns:List Ak} (hns:KL outs ns=true) (hnn:ns.Nodup)
 (hK:K ((st.e_ (LL ns) (CU outs ns++(st.so.filter fun e=> !(LL ns e.id)).map (Ax.e_ (LL ns)))).put (some d) (Om ns ps))):DW P I o st K:=by
 intro F a w G Q0 hI hR;have hI':I w:=hI▸hR.inv w hR.x_ hR.ext;have hr:=Se (a:=a) hk hc.ent w;unfold Oper.wp Oper.upon;rw [hr];have hx:Aq w G (st.args true xs).2 (xs.map a.eval):=hR.args rfl ha;have h3:=Hd hR (av:=fun b=>G.wr b) (fun _ _ q=>q) (by grind) hp hx;refine(hc.run w (xs.map a.eval).toArray (fun b=>G.wr b) hI' (fun b hb=>hR.ah_ hb) (by grind)).mono fun e w' ⟨v,ids,Gc,he,aiq,hnd,hv,hE,aqT,hfr,hwr,hb⟩=>?_;subst he;obtain⟨g1,g2,g3⟩:=hR.arl hb (fun _ q=>q) aiq hnd hns hnn hE aqT hfr hwr;refine⟨_,Kf F G Gc ns ids,hK,?_⟩;rw [hd];exact R.put (d:=some d) g1 (Adm g2 (Jt aiq).1 g3 (Jt hns).1 hc.pok hv)
def Afx (P:Program) (st:St) (rs:List ResultVar) (outs:List OE) (ps:List PP):Prop:=
 ∃ ids,KL outs ids=true/\ids.Nodup/\(Cy P st rs).1/\(∀ (w:World) (G:AG) (v:Value),Ae w G (Cy P st rs).2 v->Ae w G (Om ids ps) v)/\ ∀ e∈CU outs ids,e∈st.so
theorem MV.of {P:Program} {I:World->Prop} (hst:JS I) {f:FuncId} {fn:Func} {c:Code} {args:List V} {outs:List OE} {ps:List PP} (abR:PL.ent P f=true) (hf:P.funcs[f]? =some fn) (hb:fn.body=some c) (axc:ps.all (PP.ok outs.length)=true)
 (h: ∀ F:Fr,F.I=I->Ag P F c (St.start args fn.ntmps) (fun e a_=>(e= .normal \/e= .ret)/\Afx P a_ fn.results.toList outs ps)):MV P I f args outs ps:=by
 refine⟨abR,axc,fun w vs av hI hav acQ=>calls_of_wp hf hb ?_⟩;have hR:=R.start hst hI hav acQ fn.ntmps;refine Code.wp_mono (fun e a' w' ⟨a_,G',⟨he,q⟩,hR'⟩=>?_) (h ⟨w,av,fun _=>False,I,[]⟩ rfl _ _ _ hR);obtain⟨ids,q1,q2,q3,q4,q5⟩:=q;obtain⟨v,r1,r2⟩:=MM hR' (fn:=fn) q3;have fin:a'.defers=[]/\ ∃ v,(results fn a'.tmps).run P w'= .ok v w'/\(fun(e:Ending) w''=> ∃ v ids G',e= .returned v/\KL outs ids=true/\ids.Nodup/\Ae w'' G' (Om ids ps) v/\
  (∀ e∈CU outs ids,Be w'' G' e/\BA w'' G' e/\Ap e.cs=true)/\(∀ i j b,G'.p_ i=some b->G'.p_ j=some b->i=j)/\
  (∀ i b,G'.p_ i=some b->w.heap.size<=b/\b<w''.heap.size)/\(∀ b,G'.wr b↔av b\/ ∃ i,G'.p_ i=some b)/\Below w.heap.size w w'') (.returned v) w':=by
  refine⟨hR'.dfr,v,r1,v,ids,G',rfl,q1,q2,q4 _ _ _ r2,fun e he'=>⟨hR'.store e (q5 e he'),hR'.deep e (q5 e he'),?_⟩,hR'.inj,fun i b hib=>⟨?_,hR'.lt i b hib⟩,hR'.wr,hR'.below (fun _ hx=>hx)⟩
  ·refine hR'.B_ e (q5 e he') ?_;obtain⟨j,o,i,_,_,rfl⟩:=U0 he';rfl
  ·rcases hR'.new i b hib with q | q
   all_goals grind
 rcases he with rfl | rfl<;>exact fin
end
end Go.PL
set_option linter.all false
namespace Go.PL
open Go Go.RowKit
def OE.frz (o:OE):List C:=match o.dp with
 | true=>o.cs.map Ql
 | false=>o.cs
def PC.frz (outs:List OE):PC->C
 | .c x=>x
 | .o j=>match outs[j]? with
   | some q=> .sl q.len q.frz
   | none=> .any
def PP.frz (outs:List OE):PP->V
 | .c x=> .c (x.frz outs)
 | .a cs=> .agg (cs.map (PC.frz outs))
def ud (outs:List OE):List PP->V
 | [p]=>p.frz outs
 | ps=> .tup (ps.map (PP.frz outs))
section
variable {w:World} {G:AG} {av:Nat->Prop}
theorem fM: ∀ {cs:List C} {b o:Nat},An w G cs b o-> ∀ k c,cs[k]? =some c-> ∃ v,w.cell? ⟨b,o+k,none⟩=some v/\Ah w G c v
 | [],_,_,_,k,c,h=>by simp at h
 | d::cs,b,o,hr,k,c,h=>by
   simp only [An]at hr;cases k with
   | zero=>simp only [List.getElem?_cons_zero,injEq]at h;subst h;simpa using hr.1
   | succ k=>
     have:=fM hr.2 k c (by simpa using h);rw [show o+(k+1)=o+1+k by omega];exact this
theorem Z3 (afT: ∀ b,b<w.heap.size->av b->G.wr b) (hb: ∀ i b,G.p_ i=some b-> ¬av b) (hlt: ∀ i b,G.p_ i=some b->b<w.heap.size) {i:Ak} {E:TypeId} {n len:Nat} {cs ds:List C} {v:Value} (hE:Be w G ⟨i,some (E,n,len),cs,true⟩) (hv:G.own i=some v)
 (hd:Ap ds=true) (hl:ds.length=cs.length) (IN: ∀ b,G.p_ i=some b->An w G cs b 0->An w (im av) ds b 0):Ah w (im av) (.sl len ds) v:=by
 unfold Be at hE;obtain⟨h0,v',h1,h2⟩:=hE;rw [hv]at h1;injection h1 with h1;subst h1;simp only [Ah];refine⟨hd,?_⟩;rcases h2 with ⟨p,rfl,rfl,_⟩ | ⟨b,cap,cur,rfl,e2,e3,e4,e5,e6,e7⟩
 ·grind
 ·refine⟨_,cap,rfl,e4,e5,(by grind [List.length_eq_zero_iff]), .inr ⟨b,0,rfl,hb i b e2,hlt i b e2,IN b e2 e7⟩⟩
theorem Afy (afT: ∀ b,b<w.heap.size->av b->G.wr b) (hb: ∀ i b,G.p_ i=some b-> ¬av b) (hlt: ∀ i b,G.p_ i=some b->b<w.heap.size) {o:OE} {i:Ak} {v:Value} (hE:Be w G (o.ent i)) (hD:BA w G (o.ent i)) (hdp:Fj i=o.dp) (hp:Ap o.cs=true) (hv:G.own i=some v):Ah w (im av) (.sl o.len o.frz) v:=by
 have hk:Cl G (im av) w w:=Cl.sub afT;have mono: ∀ c u,c.pure=true->Ah w G c u->Ah w (im av) c u:=fun c u hc h=>Ah.mono hk c u (fun i hi=>absurd (show c.s_ i=true from hi) (by rw [H7 i c hc];simp)) h;unfold OE.frz;cases hq:o.dp with
 | false=>
   refine Z3 afT hb hlt hE hv hp rfl fun b _ hr=>?_;exact An.mono hk _ _ _ (fun i hi=>absurd (show BS i o.cs=true from hi) (by rw [AQ i o.cs hp];simp)) (fun _=>rfl) hr
 | true=>
   obtain⟨_,_,hI⟩:=hD.2 (by show Fj i=true;rw [hdp,hq]);have pf:Ap (o.cs.map Ql)=true:=by rw [Cu,all_eq_true]at hp ⊢;intro c hc;obtain⟨d,hd,rfl⟩:=mem_map.1 hc;have:=hp d hd;cases d<;>first | exact this | rfl
   refine Z3 afT hb hlt hE hv pf (by simp) fun b hbi hr=>zG fun k c hc=>?_;obtain⟨u,u1,u2⟩:=fM hr k c hc;refine⟨u,u1,?_⟩;by_cases axw: ∃ E n len cs,c= .isl E n len cs
   ·obtain⟨E,n,len,cs,rfl⟩:=axw;obtain⟨k1,k2,b',u',k3,k4,k5⟩:=hI k E n len cs hc;have k3:G.p_ i=some b':=k3;rw [hbi]at k3;injection k3 with k3;subst k3;rw [zero_add]at u1;rw [u1]at k4;injection k4 with k4;subst k4;simp only [Ql];exact Z3 afT hb hlt k2 k5 k1 rfl fun b _ hr=>An.mono hk _ _ _ (fun i hi=>absurd (show BS i cs=true from hi) (by rw [AQ i cs k1];simp)) (fun _=>rfl) hr
   ·have e:Ql c=c:=by cases c<;>first | rfl | grind
    grind [Cu]
end
theorem MV.flat {P:Program} {I:World->Prop} {f:FuncId} {args:List V} {outs:List OE} {ps:List PP} (h:MV P I f args outs ps) (ah0:(ud outs ps).pure =true):Ce P I f args (· =ud outs ps):=by
 refine⟨h.ent,fun w vs av hI hav hr=>(h.run w vs av hI hav hr).mono ?_⟩;rintro e w' ⟨v,ids,G,he,hns,hnd,hv,hE,aqT,hfr,hwr,hb⟩;refine⟨v,_,he,rfl,ah0,?_,hb⟩;obtain⟨l1,m1,d1⟩:=Jt hns;have afT: ∀ b,b<w'.heap.size->av b->G.wr b:=(by grind);have hbn: ∀ i b,G.p_ i=some b-> ¬av b:=(by grind);have hlt: ∀ i b,G.p_ i=some b->b<w'.heap.size:=(by grind);have hk:Cl G (im av) w' w':=Cl.sub afT;have pc: ∀ (p:PC) (u:Value),p.ok outs.length=true->Ah w' G (p.toC ids) u->Ah w' (im av) (p.frz outs) u:=by
  intro p u hp hu;cases p with
  | c x=>exact Ah.mono hk x u (fun i hi=>absurd (show x.s_ i=true from hi) (by rw [H7 i x hp];simp)) hu
  | o j=>
    simp only [PC.ok,blt_eq]at hp;simp only [PC.toC,Ah]at hu;have e1:outs[j]? =some outs[j]:=(by grind);have e2:ids[j]? =some (ids.getD j []):=by grind
    simp only [PC.frz,e1];obtain⟨q1,q2,q3⟩:=hE _ (Z2 e1 e2);exact Afy afT hbn hlt q1 q2 (d1 j _ _ e1 e2) q3 hu.1
 have pl: ∀ (cs:List PC) (us:List Value),cs.all (PC.ok outs.length)=true->Al w' G (cs.map (PC.toC ids)) us->Al w' (im av) (cs.map (PC.frz outs)) us:=by
  intro cs;induction cs with
  | nil=>intro us _ hu;cases us<;>simpa [Al] using hu
  | cons c cs ih=>
    intro us hc hu;cases us<;>simp_all [Al]
 have pp: ∀ (p:PP) (u:Value),p.ok outs.length=true->Ae w' G (p.toV ids) u->Ae w' (im av) (p.frz outs) u:=by
  intro p u hp hu;cases p with
  | c x=>simp only [PP.toV,PP.frz,Ae]at hu ⊢;exact pc x u hp hu
  | a cs=>
    simp only [PP.toV,PP.frz,Ae]at hu ⊢;obtain⟨arr,e,hu⟩:=hu;exact⟨arr,e,pl cs _ hp hu⟩
 have pps: ∀ (l:List PP) (us:List Value),l.all (PP.ok outs.length)=true->Aq w' G (l.map (PP.toV ids)) us->Aq w' (im av) (l.map (PP.frz outs)) us:=by
  intro l;induction l with
  | nil=>grind [Aq]
  | cons p l ih=>
    intro us hp hu;simp only [all_cons,and_eq_true]at hp;grind [Aq]
 have hok:=h.pok
 match ps,hok,hv with
 | [p],hok,hv=>
   simp only [all_cons,all_nil,Bool.and_true]at hok;exact pp p v hok hv
 | [],hok,hv=>
   grind [Om,ud,Ae]
 | p::q::l,hok,hv=>
   grind [Om,ud,Ae]
end Go.PL
set_option linter.all false
namespace Go.PL
open Go Go.RowKit
mutual
theorem fN {p q:Ak->Bool} (h: ∀ i,q i=true->p i=true): ∀ c:C,c.i_ p=false->c.i_ q=false
 | .h_ i,k=>by grind [C.i_]
 | .ptr i _,k=>by grind [C.i_]
 | .rsl i _ _ _,k=>by grind [C.i_]
 | .bsl i _ _,k=>by grind [C.i_]
 | .bld i _,k=>by grind [C.i_]
 | .afN i,k=>by grind [C.i_]
 | .clo _ cs,k=>by simp only [C.i_]at k ⊢;exact FI h cs k
 | .bmv _ cs,k=>by simp only [C.i_]at k ⊢;exact FI h cs k
 | .int ..,_=>rfl
 | .bool _,_=>rfl
 | .str _,_=>rfl
 | .sl ..,_=>rfl
 | .abO ..,_=>rfl
 | .acg,_=>rfl
 | .aas,_=>rfl
 | .L_,_=>rfl
 | .fn _,_=>rfl
 | .held,_=>rfl
 | .any,_=>rfl
 | .afY ..,_=>rfl
 | .mp _,_=>rfl
 | .isl ..,_=>rfl
theorem FI {p q:Ak->Bool} (h: ∀ i,q i=true->p i=true): ∀ cs:List C,Dp p cs=false->Dp q cs=false
 | [],_=>rfl
 | c::cs,k=>by simp only [Dp,or_eq_false_iff]at k ⊢;exact⟨fN h c k.1,FI h cs k.2⟩
end
mutual
theorem FJ {p q:Ak->Bool} (h: ∀ i,q i=true->p i=true): ∀ v:V,v.i_ p=false->v.i_ q=false
 | .c x,k=>by grind [V.i_,fN]
 | .agg cs,k=>by grind [V.i_,FI]
 | .tup vs,k=>by simp only [V.i_]at k ⊢;exact WM h vs k
 | .g _ v,k=>by simp only [V.i_]at k ⊢;exact FJ h v k
 | .undef,_=>by simp only [V.i_]
theorem WM {p q:Ak->Bool} (h: ∀ i,q i=true->p i=true): ∀ vs:List V,OC p vs=false->OC q vs=false
 | [],_=>by simp only [OC]
 | v::vs,k=>by simp only [OC,or_eq_false_iff]at k ⊢;exact⟨FJ h v k.1,WM h vs k.2⟩
end
structure AR where
 k:Nat
 r:Ak
 E:TypeId
 n:Nat
 len:Nat
 cs:List C
def AR.ent (x:AR):Ax:=⟨x.r,some (x.E,x.n,x.len),x.cs,true⟩
def IY (l:List C) (rs:List AR):List C:=rs.foldl (fun l x=>l.set x.k (.isl x.E x.n x.len x.cs)) l
structure fO (p:Ak->Bool) (id:Ak) (ns:List Ak) (new:Ax) (A B:St):Prop where
 len:B.tm.length=A.tm.length
 tm: ∀ i,B.tm.getD i .undef = .undef \/(B.tm.getD i .undef =A.tm.getD i .undef /\(A.tm.getD i .undef).i_ p=false)
 ane:B.gh.length=A.gh.length
 gh: ∀ i,B.gh.getD i .undef = .undef \/(B.gh.getD i .undef =A.gh.getD i .undef /\(A.gh.getD i .undef).i_ p=false)
 so: ∀ x∈B.so,x=new\/x∈A.so/\x.id ≠ id/\x.id∉ns/\(x.pu=true\/Dp p x.cs=false)
 nd:(B.so.map (·.id)).Nodup
 pre:B.pre=A.pre
section
variable {F:Fr} {a:Act} {w:World}
theorem R.agC {id:Ak} {b:Nat} {p:Ak->Bool}: ∀ (rs:List AR) {st:St} {G:AG} {e:Ax},R F st a w G->st.Ti id=some e->G.p_ id=some b->
 (∀ x∈rs,st.look x.r=some x.ent/\x.k<e.cs.length/\(∀ i,pD x.r id i=true->p i=true)/\ ∃ v,w.cell? ⟨b,x.k,none⟩=some v/\G.own x.r=some v)->(rs.map (·.r)).Nodup ->
 ∀ B:St,fO p id (rs.map (·.r)) ⟨id,e.row,IY e.cs rs,true⟩ st B-> ∃ G',R F B a w G'
 | [],st,G,e,h,hl,hb,_,_,B,hB=>by
   obtain⟨hm,hid,_,_,hpu,_⟩:=h.abl hl;refine⟨G,h.less ⟨hB.len,fun i=>(hB.tm i).imp (fun q=>q) (fun q=>q.1),fun x hx=>?_,fun _=>hB.nd,⟨hB.ane,fun i=>(hB.gh i).imp (fun q=>q) (fun q=>q.1)⟩,hB.pre⟩⟩;rcases hB.so x hx with rfl | ⟨q,_⟩
   ·have:(⟨id,e.row,IY e.cs [],true⟩:Ax)=e:=by obtain⟨i,r,cs,pu⟩:=e;simp only at hid hpu;subst hid hpu;rfl
    grind
   ·exact q
 | x::rs,st,G,e,h,hl,hb,hx,hnd,B,hB=>by
   simp only [map_cons,nodup_cons]at hnd;obtain⟨x1,x2,x3,v,x4,x5⟩:=hx x (by simp);obtain⟨hm,hid,hd,hmk,hpu,_⟩:=h.abl hl;obtain⟨hmr,afV⟩:=Bh x1;have akp:=FA x1;have ai7:Dh x.r=false:=by rw [<-afV];exact(h.deep _ hmr).1
   have ai4:x.r ≠ id:=(by grind);obtain⟨G1,g1,g2,g3,g4⟩:=h.alh hl x1 rfl rfl hb x4 x5 x2;have ai8: ∀ d∈st.so,d.id ≠ x.r->d.id ≠ id->(d.pu=true\/Dp p d.cs=false)->d∈((st.so.filter (fun d=>d.id != x.r)).map (Ax.e_ (pD x.r id))).map (X_ id e.row (e.cs.set x.k (.isl x.E x.n x.len x.cs))):=by
    intro d hd' q1 q2 q3;refine mem_map.2 ⟨d,mem_map.2 ⟨d,(by grind),?_⟩,Gu q2⟩;obtain⟨i,r,cs,pu⟩:=d;cases pu with
    | true=>rfl
    | false=>
      rcases q3 with q3 | q3
      ·cases q3
      ·have:=FI x3 cs q3;simp only [Ax.e_,Ax.mk.injEq,true_and,and_true];have key: ∀ l:List C,Dp (pD x.r id) l=false->l.map (C1 (pD x.r id))=l:=by intro l;induction l<;>simp_all [Dp,C1]
       grind
   have hL1:(st.e_ (pD x.r id) (((st.so.filter (fun d=>d.id != x.r)).map (Ax.e_ (pD x.r id))).map (X_ id e.row (e.cs.set x.k (.isl x.E x.n x.len x.cs))))).Ti id=some ⟨id,e.row,e.cs.set x.k (.isl x.E x.n x.len x.cs),true⟩:=by
    refine g1.aaa ?_ rfl hd;refine mem_map.2 ⟨e,mem_map.2 ⟨e,(by grind),?_⟩,?_⟩
    ·obtain⟨i,r,cs,pu⟩:=e;simp only at hpu;subst hpu;rfl
    ·rw [Gv hid,hid,hpu];rfl
   refine R.agC (p:=p) rs g1 hL1 (g3.trans hb) (fun y hy=>?_) hnd.2 B ?_
   ·obtain⟨y1,y2,y3,v',y4,y5⟩:=hx y (by simp [hy]);obtain⟨hmy,axy⟩:=Bh y1;have hyr:y.r ≠ x.r:=(by grind);have hyd:=FA y1;have awW:y.r ≠ id:=(by grind);refine⟨g1.adk (ai8 _ hmy hyr awW (.inl rfl)) rfl hyd rfl,by grind,y3,v',y4,?_⟩;have hpf:pD x.r id y.r=false:=by
     have aEy:Dh y.r=false:=by rw [<-axy];exact(h.deep _ hmy).1
     grind [pD,JY]
    grind
   ·refine⟨by simp [St.e_,hB.len],fun i=>?_,by simp [St.e_,hB.ane],fun i=>?_,fun z hz=>?_,hB.nd,hB.pre⟩
    ·rcases hB.tm i with q | ⟨q1,q2⟩
     ·exact .inl q
     ·right;simp only [St.e_];rw [FS (by simp [Ca,V.i_])];have:=FJ x3 _ q2;rw [show Ca (pD x.r id) (st.tm.getD i .undef)=st.tm.getD i .undef from if_neg (by rw [this];exact Bool.false_ne_true)];grind
    ·rcases hB.gh i with q | ⟨q1,q2⟩
     ·exact .inl q
     ·right;simp only [St.e_];have e1:(st.gh.map (Ca (pD x.r id))).getD i .undef =Ca (pD x.r id) (st.gh.getD i .undef):=by grind [Ca]
      have:=FJ x3 _ q2;rw [e1,show Ca (pD x.r id) (st.gh.getD i .undef)=st.gh.getD i .undef from if_neg (by rw [this];exact Bool.false_ne_true)];grind
    ·rcases hB.so z hz with q | ⟨q1,q2,q3,q4⟩
     ·grind [IY]
     ·right;simp only [map_cons,mem_cons,not_or]at q3;exact⟨ai8 z q1 q3.1 q2 q4,q2,q3.2,q4⟩
end
end Go.PL
namespace Go.PL
open Go Go.RowKit
def OS:Op->Bool
 | .move _=>true
 | .nilCheck _=>true
 | .fieldAddr .. =>true
 | .indexAddr .. =>true
 | .unOp .. =>true
 | .extract .. =>true
 | _=>false
theorem ue {P:Program} {F:Fr} {st:St} {a:Act} {w:World} {G:AG} (h:R F st a w G) {g:Bool} (hg:g=true) {o:Oper} (hA:OS o.op=true) (hs:(rd P st g o.op).1):
 ∃ v,Ae w G (rd P st g o.op).2 v/\ ∀ w',(execOp a.eval o).run P w'= .ok (.value v) w':=by
 cases ho:o.op<;>simp only [rd,ho,Q_]at hs ⊢ <;>try (first | exact hs.elim | (rw [ho]at hA;cases hA;done))
 case move x=>exact⟨_,h.arg hg hs,fun w'=>by simp [execOp,ho]⟩
 case nilCheck x=>
  obtain⟨h1,h2⟩:=hs;have hx:=h.arg hg h1;unfold dn at h2 ⊢;split at h2
  ·rename_i id off e;rw [e]at hx;simp only [Ae,Ah]at hx ⊢;obtain⟨b,hb,hv⟩:=hx;exact⟨_,⟨b,hb,rfl⟩,fun w'=>by simp [execOp,ho,hv]⟩
  ·rename_i cs off e;rw [e]at hx;simp only [Ae,Ah]at hx ⊢;obtain⟨hp,b,o',hv,k1⟩:=hx;exact⟨_,⟨hp,b,o',rfl,k1⟩,fun w'=>by simp [execOp,ho,hv]⟩
  ·rename_i f e;rw [e]at hx;simp only [Ae,Ah]at hx ⊢;exact⟨_,rfl,fun w'=>by simp [execOp,ho,hx]⟩
  ·rename_i f cs e;rw [e]at hx;simp only [Ae,Ah]at hx ⊢;obtain⟨arr,hv,hr⟩:=hx;exact⟨_,⟨arr,rfl,hr⟩,fun w'=>by simp [execOp,ho,hv]⟩
  ·rename_i f cs e;rw [e]at hx;simp only [Ae,Ah]at hx ⊢;obtain⟨arr,hv,hr⟩:=hx;exact⟨_,⟨arr,rfl,hr⟩,fun w'=>by simp [execOp,ho,hv]⟩
  grind
 case unOp op t x=>
  obtain⟨v,q1,q2⟩:=eP (P:=P) (h.arg hg hs.1) hs.2;simp_all [execOp]
 case extract x i=>
  obtain⟨h1,h2⟩:=hs;have hx:=h.arg hg h1;unfold oP at h2 ⊢;split at h2
  ·rename_i vs e;rw [e]at hx;simp only [Ae]at hx;obtain⟨arr,hv,hr⟩:=hx;obtain⟨v,q1,q2⟩:=Jn hr i h2;simp_all [execOp,Instr.extract]
  grind
 case fieldAddr s x f=>
  obtain⟨v,q1,q2⟩:=LP (P:=P) (h.arg hg hs.1) hs.2;simp_all [execOp]
 case indexAddr t x i=>
  obtain⟨v,q1,q2⟩:=LR (P:=P) h (h.arg hg hs.1) (h.arg hg hs.2.1) hs.2.2;simp_all [execOp]
theorem pM {P:Program} {F:Fr} {st:St} {a:Act} {w:World} {G:AG} (h:R F st a w G) {g:Bool} (hg:g=true) {o:Oper} (hA:OS o.op=true) (hs:(DU P st g o.op).1):
 ∃ v,Ae w G (DU P st g o.op).2 v/\ ∀ w',(execOp a.eval o).run P w'= .ok (.value v) w':=by
 have e:DU P st g o.op=rd P st g o.op:=by
  cases ho:o.op<;>first
   | rfl
   | (rw [ho]at hA;cases hA)
 grind [ue]
def DP (o:Oper):Nat:=match o.guard,o.dst with
 | none,some _=>match OS o.op with
   | true=>2
   | false=>match o.op with
     | .load .. =>1
     | .slice .. =>1
     | _=>0
 | _,_=>0
def OT (ops:Array Oper) (i:Nat):Nat:=match ops[i]? with
 | some o=>DP o
 | none=>0
def uf (P:Program) (z:Prop) (o:Oper) (a:Act) (w:World):Prop:=
 ∀ d,o.dst=some d-> ∃ u,(z\/u=a.tmps.getD d Go.undef)/\ ∀ w',(DP o=2\/CX w w')->(execOp a.eval o).run P w'= .ok (.value u) w'
def Frc (ops:Array Oper) (pr:List (List Nat)) (i:Nat) (L:Array Bool):Prop:= ∃ k,L.getD k false=true/\OT ops k=0/\i∈pr.getD k []
def Qo (ops:Array Oper) (lz:List Nat):Bool:=lz.all fun p=>match ops[p]? with
 | some o=>Nat.beq (DP o) 1&&match o.dst with
   | some d=>(List.range ops.size).all fun k=>Nat.beq k p||match ops[k]? with
     | some ok=>(Nat.beq (DP ok) 0|| !(ok.looksAt ops).contains d)&&match ok.dst with
       | some e=> !Nat.beq e d
       | none=>true
     | none=>true
   | none=>false
 | none=>false
def dk (P:Program) (ops:Array Oper) (pr:List (List Nat)) (lz:List Nat) (L:Array Bool) (a:Act) (w:World):Prop:=
 ∀ i o,ops[i]? =some o->DP o ≠ 0->L.getD i false=true-> ¬Frc ops pr i L->uf P (i∈lz) o a w
def Up1 (P:Program) (ops:Array Oper) (pr:List (List Nat)) (lz:List Nat) (L:Array Bool) (w:World) (a a':Act):Prop:=
 ∃ p o d u,p∈lz/\ops[p]? =some o/\o.dst=some d/\L.getD p false=true/\ ¬Frc ops pr p L/\(execOp a.eval o).run P w= .ok (.value u) w/\a'=a.put (some d) u
inductive Ups (P:Program) (ops:Array Oper) (pr:List (List Nat)) (lz:List Nat) (L:Array Bool) (w:World) (a:Act):Act->Prop
 | refl:Ups P ops pr lz L w a a
 | step {b c:Act}:Ups P ops pr lz L w a b->Up1 P ops pr lz L w b c->Ups P ops pr lz L w a c
def D4 (P:Program) (ops:Array Oper) (Q:Exit->Act->World->Prop) (pr:List (List Nat)) (lz:List Nat):Nat->Array Bool->Act->World->Prop
 | 0,L,a,w=>Region.ready .any ops L=[]/\Q .normal a w
 | fuel+1,L,a,w=>(Region.ready .any ops L=[]->Q .normal a w)/\
   ∀ i∈Region.ready .any ops L,wpOp P ops Q i (fun a' w'=> ∀ a'',Ups P ops pr lz (L.setIfInBounds i true) w' a' a''->dk P ops pr lz (L.setIfInBounds i true) a'' w'/\D4 P ops Q pr lz fuel (L.setIfInBounds i true) a'' w') a w
def U1 (ops:Array Oper) (pr:List (List Nat)):Bool:=Region.noSelect ops&&(iL ops pr&&(List.range ops.size).all fun p=>match ops[p]? with
 | none=>true
 | some o=>match DP o,o.dst with
   | 0,_=>true
   | _,none=>false
   | _,some d=> !(o.looksAt ops).contains d&&(List.range ops.size).all fun k=>Nat.beq k p||match ops[k]? with
     | none=>true
     | some ok=>(J0 (pr.getD p []) k||((Nat.beq (DP ok) 0&&J0 (pr.getD k []) p)||match ok.dst with
      | some e=> !(o.looksAt ops).contains e&& !Nat.beq e d
      | none=>true))&&(J0 (pr.getD k []) p||(J0 (pr.getD p []) k||o.apart ops ok)))
section
variable {P:Program} {ops:Array Oper} {Q:Exit->Act->World->Prop} {pr:List (List Nat)} {lz:List Nat}
theorem Z4: ∀ (fuel:Nat) (L:Array Bool) (a:Act) (w:World),D4 P ops Q pr lz fuel L a w->wpAny P .any ops Q fuel L a w
 | 0,_,_,_,h=>h
 | fuel+1,_,_,_,h=>⟨h.1,fun i hi=>wpOp_mono (fun a' w' h'=>Z4 fuel _ a' w' (h' a' .refl).2) (h.2 i hi)⟩
theorem LY {o:Oper} (h:DP o ≠ 0):o.guard=none/\ ∃ d,o.dst=some d:=by unfold DP at h;grind
theorem Hh (h:U1 ops pr=true):Region.noSelect ops=true/\iL ops pr=true/\ ∀ p o,ops[p]? =some o->DP o ≠ 0-> ∀ d,o.dst=some d->d∉o.looksAt ops/\ ∀ k ok,ops[k]? =some ok->k ≠ p->
 (k∈pr.getD p []\/(DP ok=0/\p∈pr.getD k [])\/ ∀ e,ok.dst=some e->e∉o.looksAt ops/\e ≠ d)/\(p∈pr.getD k []\/k∈pr.getD p []\/o.apart ops ok=true):=by
 simp only [U1,and_eq_true,all_eq_true,mem_range]at h;refine⟨h.1,h.2.1,fun p o hp hc d hd=>?_⟩;have hlt:p<ops.size:=(by grind);have:=h.2.2 p hlt;simp only [hp,hd]at this;simp only [and_eq_true,not_eq_true',all_eq_true,mem_range]at this;refine⟨by grind,fun k ok hk hne=>?_⟩;have hkl:k<ops.size:=(by grind);have:=this.2 k hkl;simp only [hk,or_eq_true,and_eq_true,Fl,beq_eq]at this;rcases this with q | ⟨q1,q2⟩
 ·grind
 ·refine⟨q1.imp id fun q=>q.imp id fun q e he=>?_,q2⟩;rw [he]at q;simp only [and_eq_true,not_eq_true']at q;refine⟨by grind,fun e=>?_⟩;simp_all
def wV (pr:List (List Nat)) (L:Array Bool):Prop:= ∀ k,L.getD k false=true-> ∀ j∈pr.getD k [],L.getD j false=true
theorem Ag9 (hp:iL ops pr=true): ∀ (k:Nat),k<ops.size-> ∀ j∈pr.getD k [],j<k:=by
 intro k;induction k using Nat.strongRecOn with
 | ind k ih=>
   intro hk j hj;have hp':=hp;simp only [iL,all_eq_true,mem_range,and_eq_true,or_eq_true,any_eq_true,Fl,blt_eq]at hp';grind
theorem Aha {L:Array Bool} {i:Nat} (h:L.getD i true=false):L.getD i false=false:=by grind
theorem aha {L:Array Bool} {i:Nat} (h:L.getD i true=false):(L.setIfInBounds i true).getD i false=true:=by
 rcases Nat.lt_or_ge i L.size with q | q
 all_goals simp_all
theorem DH {L:Array Bool} {i k:Nat} (h:(L.setIfInBounds i true).getD k false=true):k=i\/L.getD k false=true:=by
 by_cases q:i=k
 all_goals simp_all
theorem F4 (hp:iL ops pr=true) {L:Array Bool} (hd:wV pr L) {i:Nat} (h:i∈Region.ready .any ops L):i<ops.size/\L.getD i true=false/\ ∀ j∈pr.getD i [],L.getD j false=true:=by
 obtain⟨h0,o,ho,afX⟩:=mem_ready.1 h;have hlt:i<ops.size:=(by grind);refine⟨hlt,h0,fun j hj=>?_⟩;have hp':=hp;simp only [iL,all_eq_true,mem_range,and_eq_true,or_eq_true,any_eq_true,Fl,blt_eq]at hp';have dir: ∀ k∈lG ops i,L.getD k false=true:=fun k hk=>by unfold lG at hk;grind
 rcases (hp' i hlt).2 j hj with q | ⟨m,hm,q⟩
 ·grind
 ·exact hd m (dir m hm) j q
theorem wV.set (hp:iL ops pr=true) {L:Array Bool} (hd:wV pr L) {i:Nat} (h:i∈Region.ready .any ops L):wV pr (L.setIfInBounds i true):=fun k hk j hj=>by
 rcases DH hk with rfl | hk
 ·exact getD_set_true ((F4 hp hd h).2.2 j hj)
 ·exact getD_set_true (hd k hk j hj)
theorem me (a:Act) (d:Nat) (v:Value):a.put (some d) ((a.put (some d) v).tmps.getD d Go.undef)=a.put (some d) v:=by
 rcases Nat.lt_or_ge d a.tmps.size with q | q
 all_goals simp_all [Act.put,Array.setIfInBounds_eq_of_size_le]
theorem En {a:Act} {x:Option Tmp} {v:Value} {d:Nat} (h: ∀ e,x=some e->e ≠ d):(a.put x v).tmps.getD d Go.undef=a.tmps.getD d Go.undef:=by
 cases x with
 | none=>rfl
 | some e=>
   have:=h e rfl;simp_all [Act.put]
theorem uf.aj1 {z:Prop} {o:Oper} {a:Act} {w:World} {x:Option Tmp} {v:Value} (hs: ∀ cs b,o.op ≠ .select cs b) (h1: ∀ e,x=some e->e∉o.looksAt ops) (h2: ∀ d e,o.dst=some d->x=some e->e ≠ d):uf P z o (a.put x v) w↔uf P z o a w:=by unfold uf;refine forall_congr' fun d=>forall_congr' fun hd=>?_;rw [execOp_put o hs a x v h1,En (by grind)]
theorem Aad (a:Act) (d:Nat) (v u:Value):(a.put (some d) v).put (some d) u=a.put (some d) u:=by simp only [Act.put,Array.setIfInBounds_setIfInBounds]
theorem wW (a:Act) {d e:Nat} (h:e ≠ d) (v u:Value):(a.put (some d) v).put (some e) u=(a.put (some e) u).put (some d) v:=by simp_all [Act.put,Array.setIfInBounds_comm]
theorem Ju (h:Qo ops lz=true) {p:Nat} (hp:p∈lz) {o:Oper} (ho:ops[p]? =some o):DP o=1/\ ∀ d,o.dst=some d-> ∀ k ok,ops[k]? =some ok->k ≠ p->(DP ok ≠ 0->d∉ok.looksAt ops)/\ ∀ e,ok.dst=some e->e ≠ d:=by
 simp only [Qo,all_eq_true]at h;have:=h p hp;rw [ho]at this;simp only [and_eq_true,beq_eq]at this;refine⟨this.1,fun d hd k ok hk hne=>?_⟩;have h2:=this.2;rw [hd]at h2;simp only [all_eq_true,mem_range]at h2;have h3:=h2 k (Array.getElem?_eq_some_iff.1 hk).1;rw [hk]at h3;simp only [or_eq_true,and_eq_true,beq_eq,not_eq_true']at h3;rcases h3 with q | ⟨q1,q2⟩
 ·grind
 ·refine⟨fun hc=>?_,fun e he=>?_⟩
  ·grind
  ·rw [he]at q2;intro e';simp_all
theorem dk.up1 (hst:U1 ops pr=true) (hlz:Qo ops lz=true) {L:Array Bool} {a a':Act} {w:World} (h:dk P ops pr lz L a w) (hu:Up1 P ops pr lz L w a a'):dk P ops pr lz L a' w:=by
 obtain⟨hns,hp,ad0⟩:=Hh hst;have abP:=Region.noSelect_spec hns;obtain⟨p,o,d,u,h1,h2,h3,h4,h5,h6,rfl⟩:=hu;obtain⟨k1,k2⟩:=Ju hlz h1 h2;have aaz:=(ad0 p o h2 (by omega) d h3).1;intro q oq hq hc hl hf;by_cases hqp:q=p
 ·subst hqp;rw [h2]at hq;injection hq with hq;subst hq;intro d' hd';obtain⟨u',m1,m2⟩:=h q o h2 hc hl hf d' hd';refine⟨u', .inl h1,fun w' hw'=>?_⟩;rw [execOp_put o (by grind) a (some d) u (fun e he=>by injection he with he;exact he▸aaz)];grind
 ·obtain⟨m1,m2⟩:=k2 d h3 q oq hq hqp;exact(uf.aj1 (ops:=ops) (by grind) (by grind) (by grind)).2 (h q oq hq hc hl hf)
theorem dk.ups (hst:U1 ops pr=true) (hlz:Qo ops lz=true) {L:Array Bool} {a a':Act} {w:World} (h:dk P ops pr lz L a w) (hu:Ups P ops pr lz L w a a'):dk P ops pr lz L a' w:=by
 induction hu with
 | refl=>exact h
 | step _ h1 ih=>exact ih.up1 hst hlz h1
theorem Ups.trans {L:Array Bool} {a b c:Act} {w:World} (h:Ups P ops pr lz L w a b) (h2:Ups P ops pr lz L w b c):Ups P ops pr lz L w a c:=by
 induction h2 with
 | refl=>exact h
 | step _ h1 ih=>exact ih.step h1
theorem Ups.put (hst:U1 ops pr=true) (hlz:Qo ops lz=true) {i:Nat} {oi:Oper} {v:Value} (hi:ops[i]? =some oi) (hc:DP oi ≠ 0) {L:Array Bool} (hdc:wV pr L) (hun:L.getD i false=false) {a b:Act} {w:World} (h:Ups P ops pr lz L w a b):Ups P ops pr lz (L.setIfInBounds i true) w (a.put oi.dst v) (b.put oi.dst v):=by
 obtain⟨hns,hp,ad0⟩:=Hh hst;have abP:=Region.noSelect_spec hns;obtain⟨_,d,hd⟩:=LY hc;induction h with
 | refl=>exact .refl
 | step _ hu ih=>
   refine ih.step ?_;obtain⟨p,o,e,u,h1,h2,h3,h4,h5,h6,rfl⟩:=hu;obtain⟨k1,k2⟩:=Ju hlz h1 h2;have hne:i ≠ p:=(by grind);have hde:=(k2 e h3 i oi hi hne).2 d hd;have hcN:OT ops i ≠ 0:=by grind [OT]
   have atB:d∉o.looksAt ops:=by
    rcases ((ad0 p o h2 (by omega) e h3).2 i oi hi hne).1 with q | q | q
    ·have:=hdc p h4 i q;grind
    all_goals grind
   refine⟨p,o,e,u,h1,h2,h3,getD_set_true h4,fun⟨k,hk,hk0,hpk⟩=>?_,?_,?_⟩
   ·rcases DH hk with rfl | hk
    ·grind
    ·exact h5 ⟨k,hk,hk0,hpk⟩
   ·rw [execOp_put o (by grind) _ oi.dst v (fun e he=>by rw [hd]at he;injection he with he;exact he▸atB)];exact h6
   ·rw [hd,wW _ (Ne.symm hde)]
theorem Adn (hst:U1 ops pr=true) (hlz:Qo ops lz=true) {i:Nat} {oi:Oper} {v:Value} (hi:ops[i]? =some oi) (hc:DP oi ≠ 0) (hQ: ∀ c a w, ¬Q (.panic c) a w):
 ∀ (fuel:Nat) (L:Array Bool) (a:Act) (w:World),wV pr L->i∈Region.ready .any ops L->
   (∀ a'',Ups P ops pr lz (L.setIfInBounds i true) w (a.put oi.dst v) a''->dk P ops pr lz (L.setIfInBounds i true) a'' w/\D4 P ops Q pr lz fuel (L.setIfInBounds i true) a'' w)->D4 P ops Q pr lz (fuel+1) L a w:=by
 obtain⟨hns,hp,ad0⟩:=Hh hst;have abP:=Region.noSelect_spec hns;obtain⟨hgd,d,hd⟩:=LY hc;have aaz:=(ad0 i oi hi hc d hd).1;have hcN:OT ops i ≠ 0:=by grind [OT]
 have wanted: ∀ a:Act,Region.wanted oi (yielded ops a.tmps)=true:=fun a=>FY hgd _;have asz: ∀ (L:Array Bool),wV pr L->i∈Region.ready .any ops L-> ¬Frc ops pr i (L.setIfInBounds i true):=fun L hdc hr ⟨k,hk,hk0,hik⟩=>by
  obtain⟨_,hun,_⟩:=F4 hp hdc hr;rcases DH hk with rfl | hk
  ·grind
  ·have:=hdc k hk i hik;grind
 have self: ∀ (L:Array Bool) (a:Act) (w:World) (fuel:Nat),wV pr L->i∈Region.ready .any ops L->(∀ a'',Ups P ops pr lz (L.setIfInBounds i true) w (a.put oi.dst v) a''->dk P ops pr lz (L.setIfInBounds i true) a'' w/\D4 P ops Q pr lz fuel (L.setIfInBounds i true) a'' w)->
  wpOp P ops Q i (fun a' w'=> ∀ a'',Ups P ops pr lz (L.setIfInBounds i true) w' a' a''->dk P ops pr lz (L.setIfInBounds i true) a'' w'/\D4 P ops Q pr lz fuel (L.setIfInBounds i true) a'' w') a w:=fun L a w fuel hdc hr H=>by
  obtain⟨_,hun,_⟩:=F4 hp hdc hr;obtain⟨u,hz,hu⟩:=(H _ .refl).1 i oi hi hc (aha hun) (asz L hdc hr) d hd;have hex:=hu w (.inr (CX.refl w));have axD:=hex;rw [execOp_put oi (by grind) a oi.dst v (fun e he=>by rw [hd]at he;injection he with he;exact he▸aaz)]at hex;have hy:YieldsIf P ops (fun w'=>w'=w) oi u a:= .inl ⟨wanted a,fun w' e=>by subst e;exact hex⟩;refine hy.wpOp hi rfl ?_;rcases hz with hz | hz
  ·intro a'' am_;refine H a'' (Ups.trans (.step .refl ?_) am_);exact⟨i,oi,d,u,hz,hi,hd,aha hun,asz L hdc hr,axD,by rw [hd,Aad]⟩
  ·subst hz;intro a'' am_;rw [hd,me]at am_;grind
 intro fuel;induction fuel with
 | zero=>
   intro L a w hdc hr H;refine⟨(by grind),fun j hj=>?_⟩;by_cases hji:j=i
   ·simp_all
   ·have:=ready_mono hj hji;rw [(H _ .refl).2.1]at this;cases this
 | succ fuel ih=>
   intro L a w hdc hr H;refine⟨(by grind),fun j hj=>?_⟩;by_cases hji:j=i
   ·simp_all
   ·have h1:=(H _ .refl).2.2 j (ready_mono hj hji);obtain⟨hjl,atE,atF⟩:=F4 hp hdc hj;obtain⟨hil,axu,atG⟩:=F4 hp hdc hr;have hoj:ops[j]? =some ops[j]:=(by grind);have nij:i∉pr.getD j []:=(by grind);have nji:j∉pr.getD i []:=(by grind);have hap:oi.apart ops ops[j]=true:=by grind
    have hy:YieldsIf P ops (fun _=>False) oi v a:= .inl ⟨wanted a,fun _ h=>h.elim⟩;have h2:=wpOp_putIf hoj hap (fun cs b=>abP i oi cs b hi) (fun cs b=>abP j _ cs b hoj) (fun c a w q=>absurd q (hQ c _ w)) hy h1;have hdj:=hdc.set hp hj;have hir:i∈Region.ready .any ops (L.setIfInBounds j true):=ready_mono hr (Ne.symm hji);have axv:(L.setIfInBounds j true).getD i false=false:=by rw [getD_set_ne false hji];grind
    refine wpOp_mono (fun a' w' ⟨_,h34⟩=>?_) h2;rw [Array.setIfInBounds_comm _ _ (Ne.symm hji)]at h34;intro a3 ha3;have H3: ∀ a'',Ups P ops pr lz ((L.setIfInBounds j true).setIfInBounds i true) w' (a3.put oi.dst v) a''->dk P ops pr lz ((L.setIfInBounds j true).setIfInBounds i true) a'' w'/\D4 P ops Q pr lz fuel ((L.setIfInBounds j true).setIfInBounds i true) a'' w':=fun a'' am_=>
     h34 a'' ((ha3.put hst hlz hi hc hdj axv).trans am_)
    refine⟨fun p op hop hcp hpl hpf=>?_,(by grind)⟩;have h3:=(H3 _ .refl).1;have hne:p ≠ i:=(by grind);have nip:i∉pr.getD p []:=fun q=>by have:=hdj p hpl i q;grind
    obtain⟨_,dp,hdp⟩:=LY hcp;have hpd: ∀ e,oi.dst=some e->e∉op.looksAt ops/\e ≠ dp:=by
     rcases ((ad0 p op hop hcp dp hdp).2 i oi hi (Ne.symm hne)).1 with q | q | q
     ·grind
     all_goals grind
    have:=h3 p op hop hcp (getD_set_true hpl) (fun⟨k,hk,hk0,hpk⟩=>by
     rcases DH hk with rfl | hk
     ·grind
     ·exact hpf ⟨k,hk,hk0,hpk⟩)
    exact(uf.aj1 (ops:=ops) (by grind) (by grind) (by grind)).1 this
theorem dk.take (hst:U1 ops pr=true) {i:Nat} {oi:Oper} {v:Value} (hi:ops[i]? =some oi) (hc:DP oi ≠ 0) {L:Array Bool} {a:Act} {w:World} (hdc:wV pr L) (hr:i∈Region.ready .any ops L)
 (hS:dk P ops pr lz L a w) (hW:uf P (i∈lz) oi (a.put oi.dst v) w):dk P ops pr lz (L.setIfInBounds i true) (a.put oi.dst v) w:=by
 obtain⟨hns,hp,ad0⟩:=Hh hst;have abP:=Region.noSelect_spec hns;obtain⟨hil,axu,atG⟩:=F4 hp hdc hr;intro p op hop hcp hpl hpf;rcases DH hpl with rfl | aqM
 ·grind
 ·clear hpl;have hpl:=aqM;have hne:p ≠ i:=(by grind);have nip:i∉pr.getD p []:=fun q=>by have:=hdc p hpl i q;grind
  obtain⟨_,dp,hdp⟩:=LY hcp;have hpd: ∀ e,oi.dst=some e->e∉op.looksAt ops/\e ≠ dp:=by grind
  refine(uf.aj1 (ops:=ops) (by grind) (by grind) (by grind)).2 ?_;exact hS p op hop hcp hpl (fun⟨k,hk,hk0,hpk⟩=>hpf ⟨k,getD_set_true hk,hk0,hpk⟩)
theorem Aae {o:Oper} {a:Act} {w:World} {K:Act->World->Prop} (h:o.wp P a w K Q):o.wp P a w (fun a' w'=>K a' w'/\ ∃ ds u,a'=({a with defers:=ds}:Act).put o.dst u) Q:=by
 unfold Oper.wp at *;generalize (execOp a.eval o).run P w=r at *;cases r with
 | ok n w'=>
   cases n<;>simp only [Oper.upon]at h ⊢ <;>first
    | grind
    | grind
    | grind
    | grind
    | exact h
 | halt x w'=>cases x<;>simp only [Oper.upon]at h ⊢ <;>exact h
theorem pN (hst:U1 ops pr=true) (hlz:Qo ops lz=true) {j:Nat} {oj:Oper} (hj:ops[j]? =some oj) (hc:DP oj=0) {L:Array Bool} {a:Act} {w:World} (hdc:wV pr L) (hrj:j∈Region.ready .any ops L) {fuel:Nat} (hS:dk P ops pr lz L a w) {K:Act->World->Prop}
 (hw:if Region.wanted oj (yielded ops a.tmps)=true then oj.wp P a w K Q else K (a.put oj.dst undef) w)
 (hB: ∀ a' w',K a' w'-> ∀ p op,ops[p]? =some op->DP op=1->L.getD p false=true-> ¬Frc ops pr p (L.setIfInBounds j true)->(∀ w1,CX w w1->(execOp a'.eval op).run P w1=(execOp a.eval op).run P w1)->(∀ d,op.dst=some d->a'.tmps.getD d Go.undef=a.tmps.getD d Go.undef)->uf P (p∈lz) op a w->uf P (p∈lz) op a' w')
 (hU: ∀ a' w' a'',K a' w'->Up1 P ops pr lz (L.setIfInBounds j true) w' a' a''->K a'' w')
 (hK: ∀ a' w',K a' w'->(∀ d',oj.dst ≠ some d'->(∀ (p:Nat) (op:Oper),ops[p]? =some op->DP op ≠ 0->op.dst ≠ some d')->a'.tmps.getD d' Go.undef=a.tmps.getD d' Go.undef)->dk P ops pr lz (L.setIfInBounds j true) a' w'->D4 P ops Q pr lz fuel (L.setIfInBounds j true) a' w'):
 wpOp P ops Q j (fun a' w'=> ∀ a'',Ups P ops pr lz (L.setIfInBounds j true) w' a' a''->dk P ops pr lz (L.setIfInBounds j true) a'' w'/\D4 P ops Q pr lz fuel (L.setIfInBounds j true) a'' w') a w:=by
 obtain⟨hns,hp,ad0⟩:=Hh hst;have abP:=Region.noSelect_spec hns;obtain⟨hjl,atE,atF⟩:=F4 hp hdc hrj;have key: ∀ a' w',K a' w'->(∃ ds u,a'=({a with defers:=ds}:Act).put oj.dst u)-> ∀ a'',Ups P ops pr lz (L.setIfInBounds j true) w' a' a''->dk P ops pr lz (L.setIfInBounds j true) a'' w'/\D4 P ops Q pr lz fuel (L.setIfInBounds j true) a'' w':=by
  intro a' w' hk ⟨ds,u,ha'⟩;have hSS:dk P ops pr lz (L.setIfInBounds j true) a' w':=by
   intro p op hop hcp hpl hpf;have hne:p ≠ j:=(by grind);have hpl:L.getD p false=true:=by grind [DH]
   have nip:j∉pr.getD p []:=fun q=>by have:=hdc p hpl j q;grind
   obtain⟨_,dp,hdp⟩:=LY hcp;have hpd: ∀ e,oj.dst=some e->e∉op.looksAt ops/\e ≠ dp:=by
    rcases ((ad0 p op hop hcp dp hdp).2 j oj hj (Ne.symm hne)).1 with q | q | q
    ·grind
    ·exact absurd ⟨j,aha atE,by unfold OT;rw [hj];exact hc,q.2⟩ hpf
    ·exact q
   have hold: ¬Frc ops pr p L:=fun⟨k,hk,hk0,hpk⟩=>hpf ⟨k,getD_set_true hk,hk0,hpk⟩;have hW:=hS p op hop hcp hpl hold;have e1:execOp a'.eval op=execOp a.eval op:=by rw [ha'];exact execOp_put op (by grind) ({a with defers:=ds}:Act) oj.dst u (fun e he=>(hpd e he).1)
   have e2: ∀ d,op.dst=some d->a'.tmps.getD d Go.undef=a.tmps.getD d Go.undef:=(by grind [En]);by_cases h2:DP op=2
   ·intro d hd;obtain⟨u',m1,m2⟩:=hW d hd;simp_all
   ·have h1:DP op=1:=by
     have:DP op<=2:=by unfold DP;grind
     omega
    grind
  have hsl: ∀ d',oj.dst ≠ some d'->a'.tmps.getD d' Go.undef=a.tmps.getD d' Go.undef:=(by grind [En]);intro a'' hu;have hk':K a'' w'/\ ∀ d',oj.dst ≠ some d'->(∀ (p:Nat) (op:Oper),ops[p]? =some op->DP op ≠ 0->op.dst ≠ some d')->a''.tmps.getD d' Go.undef=a.tmps.getD d' Go.undef:=by
   induction hu with
   | refl=>grind
   | step _ h1 ih=>
     refine⟨hU _ _ _ ih.1 h1,fun d' hd' hp'=>?_⟩;obtain⟨p,o,d,u,q1,q2,q3,q4,q5,q6,rfl⟩:=h1;rw [En (fun e he q=>?_)]
     ·exact ih.2 d' hd' hp'
     grind [Ju]
  have aE3:=hSS.ups hst hlz hu;grind
 unfold wpOp;simp only [hj];split
 ·rename_i hwt;rw [if_pos hwt]at hw;exact .inl (Oper.wp_mono (by grind) (Aae hw))
 grind
end
theorem U2 {P:Program} {F:Fr} {st:St} {a:Act} {w:World} {G:AG} (h:R F st a w G) {d:Nat} {t:TypeId} {len:Nat} {ps:Array (Nat×Operand)} (hs:(By P st d t len ps.toList).1) {r:Value} {w':World}
 (hr:(Instr.buildSlice t len (ps.map fun(i,x)=>(i,a.eval x))).run P w= .ok r w'):CX w w':=by
 unfold By at *;split at hs
 ·rename_i E n by' abP;split at hs
  ·rename_i z hz;split at hs
   ·rename_i cs hf;obtain⟨h1,h2,h3,h4⟩:=hs;obtain⟨i,zv,hu,hi,hzv,hsz,hby,hzs⟩:=FV abP;obtain⟨i',zv',hi',adp,hc⟩:=JN hz;rw [hi]at hi';injection hi' with hi';subst hi';rw [hzv]at adp;injection adp with adp;subst adp;have hzr:=PN (G9 (w:=w) (G:=G) hc) (by omega) len;obtain⟨abo,q1,q2⟩:=MK hf (UI (h.parts rfl h1)) hzr;have q1':Instr.fill (fun i=>some (i*n,n)) ((Array.range (len*n)).map (zv.cells[· % zv.cells.size]!)) (ps.map fun(i,x)=>(i,a.eval x)).toList =some abo:=by simp_all
    rw [adv hu hi hzv hsz h3 h4 q1']at hr;grind [JK]
   grind
  grind
 grind
end Go.PL
namespace Go.PL
open Go Go.RowKit
section
variable {F:Fr} {st:St} {a:Act} {w:World} {G:AG}
theorem iR {w:World} {G:AG}: ∀ {cs:List C} {vs:List Value} {k:Nat} {c:C},Al w G cs vs->cs[k]? =some c-> ∃ v,vs[k]? =some v/\Ah w G c v
 | [],_,_,_,_,h=>by simp at h
 | _::_,[],_,_,h,_=>by simp only [Al]at h
 | c::cs,v::vs,0,d,h,hk=>by simp only [Al]at h;grind
 | c::cs,v::vs,k+1,d,h,hk=>by simp only [Al]at h;obtain⟨u,h1,h2⟩:=iR h.2 (by simpa using hk);exact⟨u,by simpa using h1,h2⟩
theorem R.alu (h:R F st a w G) {id:Ak} {e:Ax} (hl:st.Ti id=some e) {cs':List C} (hlen:cs'.length=e.cs.length) (hp:Ap cs'=true) {b:Nat} (hb:G.p_ id=some b)
 (hc: ∀ k c,cs'[k]? =some c->(e.cs[k]? =some c/\pi c=true)\/ ∃ E n,c= .isl E n 0 []/\w.cell? ⟨b,k,none⟩=some (.slice none 0 0)):
 ∃ G',R F (st.e_ (EL id) ((st.so.map (Ax.e_ (EL id))).map (X_ id e.row cs'))) a w G'/\G'.own id=G.own id:=by
 obtain⟨hm,hid,hd,hmk,hpu,hpe,hi,E0,n0,ahu,hr0⟩:=h.abl hl;let G':AG:=⟨fun i=>if EL id i=true then none else G.p_ i,fun i=>if EL id i=true then some (.slice none 0 0)else G.own i,fun b=>F.av b\/ ∃ i,(if EL id i=true then none else G.p_ i)=some b⟩;have hag: ∀ i,EL id i=false->G'.p_ i=G.p_ i/\G'.own i=G.own i:=(by grind);have hno:EL id id=false:=by grind [JY]
 have t:abb F (EL id) (fun _=>false) G G' w w:=JW h G' rfl hag (by grind) (fun i j b hib hjb=>by
  simp only [G']at hib hjb;split at hib
  ·cases hib
  ·split at hjb
   ·cases hjb
   ·exact h.inj _ _ b hib hjb)
 obtain⟨E1,n1,aj5,v1,ab_,ajb,g1,g2,g3,g4,g5,g6,g7,g8,g9⟩:=h.aes hl hb;obtain⟨us,r1,r2⟩:=g9.list;have axk: ∀ cs:List C,Ap cs=true->KO (fun i=>BS i cs=true) G G':=fun cs hp i hi'=>absurd (show BS i cs=true from hi') (by rw [AQ i cs hp];simp);have IN:An w G' cs' b 0:=by
  have:=zG (f:=_root_.id) (cs:=cs') (b:=b) (o:=0) (w:=w) (G:=G') (fun k c hk=>by
   rcases hc k c hk with ⟨q1,q2⟩ | ⟨E,n,q1,q2⟩
   ·obtain⟨u,k1,k2⟩:=iR (Al.mono t.keeps _ _ (axk _ hpe) r1) q1;exact⟨u,by rw [zero_add];have:=r2 k u k1;grind,k2⟩
   ·refine⟨.slice none 0 0,by grind,?_⟩;rw [q1];simp only [_root_.id,Ah];rfl)
  simp_all
 have afu:Be w G' ⟨id,e.row,cs',true⟩:=by unfold Be;rw [g1];exact⟨by grind,v1,by grind, .inr ⟨b,ab_,ajb,g4,by grind,g5,g6,g7,g8,IN⟩⟩
 have hin:Fz w G' ⟨id,e.row,cs',true⟩:=by
  intro j E2 n2 abf cs2 hj;rcases hc j _ hj with ⟨_,q2⟩ | ⟨E,n,q1,q2⟩
  ·cases q2
  ·injection q1 with q1 q3 q4 q5;subst q1 q3 q4 q5;have ho:G'.own (B9 j id)=some (.slice none 0 0)/\G'.p_ (B9 j id)=none:=by grind [JX]
   refine⟨rfl,?_,b,_,by grind,q2,ho.1⟩;unfold Be;grind
 have aaq:=t.alQ h hl (fun _=>true) (fun d hd' _ adq=>by
  have h1:EL id d.id=false:=by
   cases q:EL id d.id with
   | false=>rfl
   | true=>have:=JY q;rw [(h.deep d hd').1]at this;cases this
  exact⟨h1,rfl,fun _ k=>⟨by grind [JX],rfl⟩⟩) (by rw [g1];rfl) afu hin hp
 rw [K1]at aaq;exact⟨G',t.afP h _ aaq.1 aaq.2.1 aaq.2.2.1 aaq.2.2.2,(hag id hno).2⟩
end
end Go.PL
