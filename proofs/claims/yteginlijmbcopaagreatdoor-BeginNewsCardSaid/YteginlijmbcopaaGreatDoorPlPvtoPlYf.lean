/- The pure logic: PlPv, PlPz, PlPu, PlQa, Ta, Tb, Tc, Td, Te, Tf, Tg, Th, Ti, PlYa, PlYb, PlYc, PlYd, PlYe, PlYf. -/
import Derived.Test.YteginlijmbcopaaGreatDoorPlRtoPlPt
import Derived.OrdersHeld
open Bool (and_eq_true or_eq_true or_eq_false_iff not_eq_true')
open Nat (le_succ beq_eq blt_eq ble_eq zero_add add_mul one_mul add_assoc add_zero le_refl)
open List (mem_cons map_cons mem_map all_eq_true flatMap_cons all_cons mem_range mem_of_getElem? map_map nodup_cons getElem?_map ext_getElem? map_append any_eq_true mem_append all_nil)
open Option.some (injEq)
set_option linter.all false
namespace Go.PL
open Go Go.RowKit
def stS:List V->Nat->List Nat->List V
 | [],_,_=>[]
 | v::vs,_,[]=>v::vs
 | v::vs,i,j::l=>match Nat.beq i j with
   | true=> .undef ::stS vs (i+1) l
   | false=>v::stS vs (i+1) (j::l)
def upS:List V->Nat->List (Nat×V)->List V
 | [],_,_=>[]
 | v::vs,_,[]=>v::vs
 | v::vs,i,(j,x)::l=>match Nat.beq i j with
   | true=>x::upS vs (i+1) l
   | false=>v::upS vs (i+1) ((j,x)::l)
inductive Dn where
 | k (n:Nat)
 | s (n:Nat) (l:List (Nat×C))
 | e (x:Aw)
def upC:List C->Nat->List (Nat×C)->List C
 | [],_,_=>[]
 | v::vs,_,[]=>v::vs
 | v::vs,i,(j,x)::l=>match Nat.beq i j with
   | true=>x::upC vs (i+1) l
   | false=>v::upC vs (i+1) ((j,x)::l)
def AeV:List Aw->Nat->Aw
 | [],_=>⟨[],none,[],false⟩
 | e::_,0=>e
 | _::l,n+1=>AeV l n
def soD (old:List Aw):List Dn->List Aw
 | []=>[]
 | .k n::l=>AeV old n::soD old l
 | .s n c::l=>(match AeV old n with | ⟨i,r,cs,p⟩=>⟨i,r,upC cs 0 c,p⟩)::soD old l
 | .e x::l=>x::soD old l
def u (d:List Nat) (l:List (Nat×V)) (st:St):St:=⟨upS (stS st.tm 0 d) 0 l,st.so,st.gh,st.pre⟩
def uo (d:List Nat) (l:List (Nat×V)) (o:List Dn) (st:St):St:=⟨upS (stS st.tm 0 d) 0 l,soD st.so o,st.gh,st.pre⟩
def nA:Nat->List Stp
 | 0=>[]
 | n+1=> .a ::nA n
section
variable {P:Program} {F:Fr} {st:St} {id:Nat} {l:List Oper} {c:Code} {Q:Exit->St->Prop} {cs:List Prop} {K:St->Prop}
theorem Gg (ss:List Stp) (f:St->St) (hl:A1 cs) (h:Ae P F c (f st) Q) (hr:mR (Jg P F.I false l.toArray l ss st) (f st)=some (cs,f st):=by kernel_rfl):Ae P F (.seq (.region id l.toArray false) c) st Q:=Ae.rg _ hr hl h
theorem Ge (ss:List Stp) (f:St->St) (hl:A1 cs) (h:Q .normal (f st)) (hr:Jg P F.I false l.toArray l ss st=some (cs,f st):=by kernel_rfl):Ae P F (.region id l.toArray false) st Q:=Ae.reg hr hl h
theorem Gp {I:World->Prop} {ops:Array Oper} (n:Nat) (ss:List Stp) (f:St->St) (hc:A1 cs) (hK:DN P I ops (l.drop n) (f st) K) (h:Jg P I false ops (l.take n) ss st=some (cs,f st):=by kernel_rfl):DN P I ops l st K:=Run.part n (f st) h hc hK
theorem Gw {I:World->Prop} {ops:Array Oper} (ss:List Stp) (f:St->St) (hc:A1 cs) (hK:K (f st)) (h:Jg P I false ops l ss st=some (cs,f st):=by kernel_rfl):DN P I ops l st K:=Run.whole (f st) h hc hK
theorem Gs (f:St->St) (h:Ae P F c (f st) Q) (hl:mQ st (f st)=some (f st):=by kernel_rfl):Ae P F c st Q:=Ae.less (Cp.t hl) h
theorem Gj {X:Type} (S:X->St->St) (Φ:X->Prop) {x y:Code} {Q:Exit->St->Prop} (hx:Ae P F x st (Cq (fun an=> ∃ v,Φ v/\Wk an (S v st)) Q)) (hy: ∀ v,Φ v->Ae P F y (S v st) Q):Ae P F (.seq x y) st Q:=Sj (fun v=>S v st) Φ hx hy
theorem Gi {σ ρ:Type} {B:σ->Option (σ⊕ρ)} (S:σ->St->St) {N:Nat} {s0:σ} {o:ρ} {c:Code} {Q:Exit->St->Prop} (hi:PL.iter B N s0=some o) (hl:Wk st (S s0 st))
 (hb: ∀ s z,B s=some z->(∀ o',z= .inr o'->o'=o)->Ae P F c (S s st) (Cq (fun an=> ∃ s',z= .inl s'/\Wk an (S s' st)) Q)):Ae P F (.loop c) st Q:=It (fun v=>S v st) hi hl hb
theorem hS {x y:Code} {Q:Exit->St->Prop} (h:Ae P F x st (Cq (fun an=>Ae P F y an Q) Q)):Ae P F (.seq x y) st Q:=Ae.seq h
theorem hK (h:Q .normal st):Ae P F .skip st Q:=Ae.skip h
theorem hR (h:Q .ret st):Ae P F .ret st Q:=Ae.ret h
theorem hE {id:Nat} (h:Q (.exit id) st):Ae P F (.exit id) st Q:=Ae.exit h
theorem hB {id:Nat} {c:Code} {Q:Exit->St->Prop} (h:Ae P F c st (Cl id Q)):Ae P F (.block id c) st Q:=Ae.block h
theorem hO {id:Nat} {ops:Array Oper} {Q:Exit->St->Prop} (h:DN P F.I ops ops.toList st (Q .normal)):Ae P F (.region id ops false) st Q:=Ae.region h
theorem Te {i:Nat} (h:Q (.exit i) st):Cq K Q (.exit i) st:=h
theorem qN {i:Nat} (h:Q .normal st):Cl i Q .normal st:=h
theorem qX {i:Nat} (h:Q .normal st):Cl i Q (.exit i) st:=Cl.out h
end
section
variable {α:Type} {e x:α}
end
section
variable {α β γ δ ε:Type} {r:ε}
theorem bS2 {o:Option α} {f:α->Option β} {g:α->β->Option ε} (h:(o.bind fun x=>(f x).bind (g x))=some r): ∃ x,o=some x/\ ∃ y,f x=some y/\g x y=some r:=by obtain⟨x,hx,h⟩:=bS h;simp_all [bS]
end
section
variable {P:Program} {F:Fr} {st:St} {K:St->Prop}
theorem iC {cc:Operand} {x y:Code} {Q:Exit->St->Prop} {β:Type} {b:Bool} {X Y:Option β} {r:β} (h:(if b then X else Y)=some r) (h1:X=some r->Ae P F x st Q) (h2:Y=some r->Ae P F y st Q) (hc:st.ev cc= .c (.bool b):=by kernel_rfl):Ae P F (.cond cc x y) st Q:=
 Ae.ifB b hc (by grind) (by grind)
end
theorem Cd.bo {P:Program} {I:World->Prop} (ahw:J8 I) {f:FuncId} {fn:Func} {c:Code} {args:List V} {Q:V->Prop} {n:Nat} (hf:P.funcs[f]? =some fn) (hb:fn.body=some c) (hn:fn.ntmps=n) (rs:List ResultVar)
 (h: ∀ w0 av old gv,Ae P ⟨w0,av,old,I,gv⟩ c (St.start args n) (fun e an=>(e= .normal \/e= .ret)/\(DA P an rs).1/\(DA P an rs).2.pure =true/\Q (DA P an rs).2))
 (abr:PL.ent P f=true:=by kernel_rfl) (hr:fn.results=rs.toArray:=by kernel_rfl):Cd P I f args Q:=Cd.body ahw abr hf hb hn hr rfl h
end Go.PL
namespace Go.PL
open Go Go.RowKit
end Go.PL
namespace Go.PL
open Go Go.RowKit
def OU (I:World->Prop) (g:Nat) (tab:List (List UInt8)):Prop:= ∀ w,I w-> ∃ T fz,w.heap[g]? =some (.cells (tab.map fun s=>Value.string ⟨s.toArray⟩).toArray T fz)
theorem R.I {F:Fr} {st:St} {a:Act} {w:World} {G:AG} (h:R F st a w G):F.I w:=h.inv w h.u_ h.ext
theorem WV {I:World->Prop} {g:Nat} {tab:List (List UInt8)} (h:OU I g tab) {w:World} (hw:I w) {i:Nat} (hi:i<tab.length):w.cell? ⟨g,i,none⟩=some (.string ⟨(tab.getD i []).toArray⟩):=by obtain⟨T,fz,hh⟩:=h w hw;grind [World.cell?]
section
variable {P:Program} {I:World->Prop} {o:Oper} {st:St} {K:St->Prop}
theorem DJ.avB {t:TypeId} {x:Operand} {g n:Nat} {k:IntKind} {i:Int} {E:TypeId} (ho:o.op= .indexAddr t (.global g) x) (hi:0<=i/\i<n) (hK:K (st.put o.dst (.c (.agK g i.toNat))))
 (hx:st.ev x= .c (.int k i):=by kernel_rfl) (ht:Gx P t=some (n,E,1):=by kernel_rfl):DJ P I o st K:=by
 intro F a w G Q hI hR;have V_:=hR.ev x;rw [hx]at V_;simp only [Ab,Ad]at V_;have q_:(execOp a.eval o).run P w= .ok (.value (.pointer (some ⟨g,i.toNat,none⟩))) w:=by have:=JT ht g 0 k i hi.1 hi.2 w;rw [zero_add,Nat.mul_one]at this;have hgl:a.eval (.global g)= .pointer (some ⟨g,0,none⟩):=rfl;simp_all [execOp]
 exact AJ q_ ⟨_,G,hK,hR.put (by simp only [Ab,Ad])⟩
theorem DJ.avA {t:TypeId} {x:Operand} {g off:Nat} {tab:List (List UInt8)} (ho:o.op= .load t x) (hg:OU I g tab) (acy:off<tab.length) (hK:K (st.put o.dst (.c (.str (tab.getD off [])))))
 (hx:st.ev x= .c (.agK g off):=by kernel_rfl) (ht:K0 P t=some (false,1):=by kernel_rfl):DJ P I o st K:=by
 intro F a w G Q hI hR;have V_:=hR.ev x;rw [hx]at V_;simp only [Ab,Ad]at V_;obtain⟨d,i,hu,hd,_⟩:=C7 ht;have hc:=WV hg (hI▸hR.I) acy;have q_:(execOp a.eval o).run P w= .ok (.value (.string ⟨(tab.getD off []).toArray⟩)) w:=by simp_all [execOp,DY]
 exact AJ q_ ⟨_,G,hK,hR.put (by simp only [Ab,Ad])⟩
theorem fU {w:World} {G:AG}: ∀ tab:List (List UInt8),Aj w G (tab.map C.str) (tab.map fun s=>Value.string ⟨s.toArray⟩)
 | []=>by simp [Aj]
 | s::l=>by simp_all [Aj,Ad,fU]
theorem DJ.az1 {t:TypeId} {g:Nat} {tab:List (List UInt8)} (ho:o.op= .load t (.global g)) (hg:OU I g tab) (hK:K (st.put o.dst (.agg (tab.map C.str))))
 (ht:K0 P t=some (true,tab.length):=by kernel_rfl):DJ P I o st K:=by
 intro F a w G Q hI hR;obtain⟨d,i,hu,hd,hi,hsz⟩:=C7 ht;have hw:I w:=hI▸hR.I;have q_:(execOp a.eval o).run P w= .ok (.value (.agg (tab.map fun s=>Value.string ⟨s.toArray⟩).toArray)) w:=by
  have:=run_loadAt_mid (P:=P) w g 0 t (tab.map fun s=>Value.string ⟨s.toArray⟩) d (fun j v hj=>by
   have hjl:j<tab.length:=by grind
   rw [zero_add,WV hg hw hjl];grind) hu hd (by grind)
  have hgl:a.eval (.global g)= .pointer (some ⟨g,0,none⟩):=rfl;simp_all [execOp]
 exact AJ q_ ⟨_,G,hK,hR.put (by simp only [Ab];exact⟨_,rfl,by simpa using fU tab⟩)⟩
end
end Go.PL
namespace Go.PL
open Go Go.RowKit
section
variable {α:Type} {l l':List (List α)} {i j:Int} {x:List α} {y y':α} {e:α->List C} {E n:Nat}
end
section
variable {P:Program} {F:Fr} {st:St}
end
end Go.PL
namespace Go.PL
open Go Go.RowKit
inductive Kd where
 | int (k:IntKind)
 | bool
 | str
 | l_ (E:Nat)
def P6 (den:Nat->Type):Kd->Type
 | .int _=>Int
 | .bool =>Bool
 | .str =>List UInt8
 | .l_ E=>List (den E)
def DK (den:Nat->Type):List Kd->Type
 | []=>Unit
 | k::ks=>P6 den k×DK den ks
def Bm {den:Nat->Type} (enc: ∀ E,den E->List C):(k:Kd)->P6 den k->C
 | .int k,n=> .int k n
 | .bool,b=> .bool b
 | .str,s=> .str s
 | .l_ E,l=> .sl l.length (List.flatMap (enc E) l)
def BG {den:Nat->Type} (enc: ∀ E,den E->List C):(ks:List Kd)->DK den ks->List C
 | [],_=>[]
 | k::ks,x=>Bm enc k x.1::BG enc ks x.2
structure Bo where
 den:Nat->Type
 inh: ∀ E,Inhabited (den E)
 enc: ∀ E,den E->List C
 ks:Nat->List Kd
 un: ∀ E,den E->DK den (ks E)
 bd: ∀ E,DK den (ks E)->den E
 beq: ∀ E,den E->den E->Bool
 afv: ∀ E y,un E (bd E y)=y
 aa2: ∀ E x,BG enc (ks E) (un E x)=enc E x
 ajc: ∀ E x y,beq E x y=BW (enc E x) (enc E y)
variable {T:Bo}
instance (E:Nat):Inhabited (T.den E):=T.inh E
def Bo.sz (T:Bo) (E:Nat):Nat:=(T.ks E).length
inductive DC (T:Bo) where
 | c (x:C)
 | k (kd:Kd) (x:P6 T.den kd)
 | ip (E:Nat) (l:List (T.den E)) (i:Int) (x:T.den E) (off:Nat)
 | rp (id:Ah) (N:Nat) (i:Int) (off:Nat)
 | ap (id:Ah) (base n E:Nat) (i:Int) (off:Nat)
 | bs (id:Ah) (E:Nat) (o n:Int)
 | clo (b:Bool) (f:FuncId) (cs:List (DC T))
mutual
def DC.toC:DC T->C
 | .c x=>x
 | .k kd x=>Bm T.enc kd x
 | .ip E l i _ off=> .abQ (l.flatMap (T.enc E)) (i.toNat*T.sz E+off)
 | .rp id N i off=> .ptr id (i.toNat*N+off)
 | .ap id base _ E i off=> .ptr id (base+i.toNat*T.sz E+off)
 | .bs id E o n=> .rsl id (T.sz E) o.toNat n.toNat
 | .clo true f cs=> .bmv f (Ar cs)
 | .clo false f cs=> .clo f (Ar cs)
def Ar:List (DC T)->List C
 | []=>[]
 | c::cs=>c.toC::Ar cs
end
theorem CK: ∀ cs:List (DC T),Ar cs=cs.map DC.toC
 | []=>by simp [Ar]
 | c::cs=>by simp [Ar,CK cs]
structure GL where
 t:Nat
 w:Bool
 b:Bool
def Be:List GL->Bool
 | []=>true
 | [l]=>l.b
 | l::l'::ls=>Be (l'::ls)&&l.b
theorem Kf: ∀ {k:List GL},Be k=true↔ ∀ l∈k,l.b=true
 | []=>by simp [Be]
 | [l]=>by simp [Be]
 | l::l'::ls=>by simp only [Be,and_eq_true,Kf (k:=l'::ls),mem_cons];grind
inductive DV (T:Bo) where
 | c (x:DC T)
 | agg (cs:List (DC T))
 | tup (vs:List (DV T))
 | g (key:List GL) (v:DV T)
 | u
mutual
def DV.toV:DV T->V
 | .c x=> .c x.toC
 | .agg cs=> .agg (Ar cs)
 | .tup vs=> .tup (Bg vs)
 | .g key v=> .g (Be key) v.toV
 | .u => .undef
def Bg:List (DV T)->List V
 | []=>[]
 | v::vs=>v.toV::Bg vs
end
theorem OV: ∀ vs:List (DV T),Bg vs=vs.map DV.toV
 | []=>by simp [Bg]
 | v::vs=>by simp [Bg,OV vs]
def Zr (T:Bo):(k:Kd)->P6 T.den k->C
 | .l_ E,l=> .isl E (T.sz E) l.length (List.flatMap (T.enc E) l)
 | .int k,n=> .int k n
 | .bool,b=> .bool b
 | .str,s=> .str s
def BR (T:Bo):(ks:List Kd)->DK T.den ks->List C
 | [],_=>[]
 | k::ks,x=>Zr T k x.1::BR T ks x.2
def Bo.aa4 (T:Bo) (E:Nat) (x:T.den E):List C:=BR T (T.ks E) (T.un E x)
def AC (T:Bo) (E:Nat) (n:Int):Int->List (T.den E)->List C
 | _,[]=>[]
 | k,x::l=>(if k<n then T.aa4 E x else T.enc E x)++AC T E n (k+1) l
def Bq (T:Bo) (E:Nat) (n:Int) (l:List (T.den E)):Option (Int×Nat)->List C
 | none=>AC T E n 0 l
 | some (i,off)=>(AC T E n 0 l).set (i.toNat*T.sz E+off) .any
inductive DX (T:Bo) where
 | box (cs:List (DC T))
 | row (E:Nat) (l:List (T.den E))
 | deep (E:Nat) (n:Int) (l:List (T.den E)) (h:Option (Int×Nat))
structure DE (T:Bo) where
 id:Ah
 tag:Nat
 x:DX T
def DE.toE (e:DE T):Aw:=match e.x with
 | .box cs=>⟨e.id,none,Ar cs,false⟩
 | .row E l=>⟨e.id,some (E,T.sz E,l.length),l.flatMap (T.enc E),true⟩
 | .deep E n l h=>⟨e.id,some (E,T.sz E,l.length),Bq T E n l h,true⟩
theorem DE.toE_id (e:DE T):e.toE.id=e.id:=by grind [DE.toE]
abbrev Tm (T:Bo):=List (Nat×Nat×DV T)
def lk:Tm T->Nat->DV T
 | [],_=> .u
 | (s,_,v)::r,i=>match Nat.beq s i with
   | true=>v
   | false=>lk r i
def Zs:Tm T->Nat->Nat
 | [],_=>0
 | (s,t,_)::r,i=>match Nat.beq s i with
   | true=>t+1
   | false=>Zs r i
def AD (m:Nat) (tm:Tm T):List V:=(List.range m).map fun i=>(lk tm i).toV
structure Af (T:Bo) where
 m:Nat
 tm:Tm T
 so:List (DE T)
 gh:List (Nat×Tm T)
 pre:Ah
 nx:Nat
def Af.toSt (st:Af T):St:=⟨AD st.m st.tm,st.so.map DE.toE,st.gh.flatMap fun f=>AD f.1 f.2,st.pre⟩
mutual
def DC.ok:DC T->Prop
 | .ip _ l i x _=>idx l i=some x
 | .bs _ _ o n=>0<=o/\0<=n
 | .clo _ _ cs=>Ce cs
 | _=>True
def Ce:List (DC T)->Prop
 | []=>True
 | c::cs=>c.ok/\Ce cs
end
theorem C8: ∀ {cs:List (DC T)},Ce cs↔ ∀ c∈cs,c.ok
 | []=>by simp [Ce]
 | c::cs=>by simp [Ce,C8 (cs:=cs)]
structure As (T:Bo) where
 v:Nat->DV T
 e:Nat->DE T
def ju:DV T->Bool
 | .c (.k .bool b)=>b
 | .g _ (.c (.k .bool b))=>b
 | _=>false
def GL.ok (H:As T) (nx:Nat) (l:GL):Prop:=l.t<nx/\l.b=(ju (H.v l.t)==l.w)
mutual
def DV.ok (H:As T) (nx:Nat):DV T->Prop
 | .c x=>x.ok
 | .agg cs=>Ce cs
 | .tup vs=>CX H nx vs
 | .g key v=>(∀ l∈key,l.ok H nx)/\(Be key=true->v.ok H nx)
 | .u =>True
def CX (H:As T) (nx:Nat):List (DV T)->Prop
 | []=>True
 | v::vs=>v.ok H nx/\CX H nx vs
end
theorem OW {H:As T} {nx:Nat}: ∀ {vs:List (DV T)},CX H nx vs↔ ∀ v∈vs,v.ok H nx
 | []=>by simp [CX]
 | c::cs=>by simp [CX,OW (vs:=cs)]
def Ro (H:As T) (nx:Nat) (tm:Tm T):Prop:= ∀ s t v,(s,t,v)∈tm->t<nx/\H.v t=v/\v.ok H nx
def DX.ok:DX T->Prop
 | .box cs=>Ce cs
 | .row _ _=>True
 | .deep .. =>True
structure AH (H:As T) (st:Af T):Prop where
 tm:Ro H st.nx st.tm
 gh: ∀ f∈st.gh,Ro H st.nx f.2
 so: ∀ e∈st.so,e.tag<st.nx/\H.e e.tag=e/\e.x.ok
 nd:(st.so.map DE.id).Nodup
def C6 (nx:Nat) (H H':As T):Prop:= ∀ t,t<nx->H'.v t=H.v t/\H'.e t=H.e t
theorem C6.refl (nx:Nat) (H:As T):C6 nx H H:=fun _ _=>⟨rfl,rfl⟩
theorem C6.trans {n m:Nat} {A B D:As T} (h:C6 n A B) (k:C6 m B D) (hnm:n<=m):C6 n A D:=fun t ht=>
 ⟨(k t (by grind)).1.trans (h t ht).1,(k t (by grind)).2.trans (h t ht).2⟩
theorem GL.ac6 {H H':As T} {n m:Nat} (he:C6 n H H') (hnm:n<=m) {l:GL} (h:l.ok H n):l.ok H' m:=
 ⟨Nat.lt_of_lt_of_le h.1 hnm,by rw [(he l.t h.1).1];exact h.2⟩
mutual
theorem DV.ac6 {H H':As T} {n m:Nat} (he:C6 n H H') (hnm:n<=m): ∀ {v:DV T},v.ok H n->v.ok H' m
 | .c _,h=>by grind [DV.ok]
 | .agg _,h=>by grind [DV.ok]
 | .tup vs,h=>by simp only [DV.ok]at h ⊢;exact mU he hnm h
 | .g key v,h=>by simp only [DV.ok]at h ⊢;exact⟨fun l hl=>GL.ac6 he hnm (h.1 l hl),fun q=>DV.ac6 he hnm (h.2 q)⟩
 | .u,_=>by simp only [DV.ok]
theorem mU {H H':As T} {n m:Nat} (he:C6 n H H') (hnm:n<=m): ∀ {vs:List (DV T)},CX H n vs->CX H' m vs
 | [],_=>by simp only [CX]
 | v::vs,h=>by simp only [CX]at h ⊢;exact⟨DV.ac6 he hnm h.1,mU he hnm h.2⟩
end
theorem BY {H H':As T} {n m:Nat} (he:C6 n H H') (hnm:n<=m) {tm:Tm T} (h:Ro H n tm):Ro H' m tm:=fun s t v hm=>by obtain⟨h1,h2,h3⟩:=h s t v hm;exact⟨(by grind),by rw [(he t h1).1];exact h2,DV.ac6 he hnm h3⟩
theorem SG (tm:Tm T) (i:Nat):lk tm i= .u /\Zs tm i=0\/ ∃ t,(i,t,lk tm i)∈tm/\Zs tm i=t+1:=by
 induction tm with
 | nil=>exact .inl ⟨rfl,rfl⟩
 | cons x r ih=>
   obtain⟨s,t,v⟩:=x;simp only [lk,Zs];cases hb:Nat.beq s i with
   | true=>
     simp_all
   | false=>
     grind
theorem Ahj {H:As T} {nx:Nat} {tm:Tm T} (h:Ro H nx tm) (i:Nat):(lk tm i).ok H nx:=by
 rcases SG tm i with ⟨h1,_⟩ | ⟨t,h1,_⟩
 ·grind [DV.ok]
 ·exact(h i t _ h1).2.2
theorem Zt {H:As T} {nx:Nat} {tm:Tm T} (h:Ro H nx tm) {i t:Nat} (ht:Zs tm i=t+1):t<nx/\H.v t=lk tm i:=by
 rcases SG tm i with ⟨_,h1⟩ | ⟨t',h1,h2⟩
 ·grind
 ·rw [h2]at ht;injection ht with ht;subst ht;obtain⟨a,b,_⟩:=h i t' _ h1;grind
def WW:Value->Option (DC T)
 | .int k n=>some (.k (.int k) n)
 | .bool b=>some (.k .bool b)
 | .string s=>some (.k .str s.data.toList)
 | v=>match CW v with
   | some c=>some (.c c)
   | none=>none
def Kg:List Value->Option (List (DC T))
 | []=>some []
 | v::vs=>match WW v,Kg vs with
   | some c,some cs=>some (c::cs)
   | _,_=>none
def U4:Value->DV T
 | .agg cs=>match Kg cs.toList with
   | some l=> .agg l
   | none=> .u
 | v=>match WW v with
   | some c=> .c c
   | none=> .u
theorem Zu {v:Value} {c:DC T} (h:WW v=some c):CW v=some c.toC/\c.ok:=by
 unfold WW at h;split at h
 ·injection h with h;subst h;exact⟨rfl,by simp only [DC.ok]⟩
 ·injection h with h;subst h;exact⟨rfl,by simp only [DC.ok]⟩
 ·injection h with h;subst h;exact⟨rfl,by simp only [DC.ok]⟩
 grind [DC.toC,DC.ok]
theorem Zv {v:Value} (h:WW (T:=T) v=none):CW v=none:=by unfold WW at h;grind
theorem OX: ∀ {vs:List Value} {cs:List (DC T)},Kg vs=some cs->D5 vs=some (Ar cs)/\Ce cs
 | [],cs,h=>by grind [Kg,D5,Ar,Ce]
 | v::vs,cs,h=>by
   unfold Kg at h;split at h
   ·rename_i c cs' h1 h2;injection h with h;subst h;obtain⟨a,b⟩:=Zu h1;obtain⟨a',b'⟩:=OX h2;simp [D5,a,a',Ar,Ce,b,b']
   ·cases h
theorem WX: ∀ {vs:List Value},Kg (T:=T) vs=none->D5 vs=none
 | [],h=>by simp [Kg]at h
 | v::vs,h=>by
   unfold Kg at h;split at h
   ·cases h
   ·rename_i Tj;unfold D5;cases h1:WW (T:=T) v with
    | none=>rw [Zv h1]
    | some c=>
      cases h2:Kg (T:=T) vs with
      | none=>rw [WX h2];cases CW v<;>rfl
      | some cs=>exact(Tj c cs h1 h2).elim
theorem WY (v:Value) {H:As T} {nx:Nat}:(U4 (T:=T) v).toV =MV v/\(U4 (T:=T) v).ok H nx:=by
 cases v
 case agg cs=>
  simp only [U4,MV];cases h:Kg (T:=T) cs.toList with
  | some l=>
    obtain⟨a,b⟩:=OX h;simp_all [DV.toV,DV.ok]
  | none=>simp only [WX h,DV.toV,DV.ok];grind
 all_goals
  simp only [U4,MV];split
  ·rename_i c h;obtain⟨a,b⟩:=Zu h;simp only [a,DV.toV,DV.ok];exact⟨trivial,b⟩
  ·rename_i h;simp only [Zv h,DV.toV,DV.ok];exact(by grind)
def Af.get (st:Af T) (t:Nat):DV T:=match Nat.blt t st.m with
 | true=>lk st.tm t
 | false=> .u
def Af.ev (st:Af T):Operand->DV T
 | .tmp t=>st.get t
 | .const v=>U4 v
 | .func f=> .c (.c (.fn f))
 | .global _=> .u
theorem Me (m:Nat) (tm:Tm T) (t:Nat):(AD m tm).getD t .undef =(match Nat.blt t m with | true=>(lk tm t).toV | false=> .undef):=by
 unfold AD;rw [List.getD_eq_getElem?_getD,getElem?_map];cases hb:Nat.blt t m with
 | true=>
   simp_all
 | false=>
   have: ¬t<m:=by
    intro h;have h2:Nat.blt t m=true:=by simpa using h
    grind
   grind
theorem Af.aa_ (st:Af T) (t:Nat):st.toSt.get t=(st.get t).toV :=by show (AD st.m st.tm).getD t .undef =_;grind [Me,Af.get,DV.toV]
theorem Af.ag5 {H:As T} {st:Af T} (h:AH H st) (t:Nat):(st.get t).ok H st.nx:=by
 unfold Af.get;split
 ·exact Ahj h.tm t
 ·simp only [DV.ok]
theorem Af.abS (st:Af T) (x:Operand):st.toSt.ev x=(st.ev x).toV :=by
 cases x with
 | tmp t=>exact st.aa_ t
 | const v=>exact(WY (T:=T) v (H:=⟨fun _=> .u,fun _=>⟨[],0, .box []⟩⟩) (nx:=0)).1.symm
 | func f=>simp only [St.ev,Af.ev,DV.toV,DC.toC]
 | global g=>simp only [St.ev,Af.ev,DV.toV]
theorem Af.amf {H:As T} {st:Af T} (h:AH H st) (x:Operand):(st.ev x).ok H st.nx:=by cases x<;>grind [Af.ag5,WY,Af.ev,DV.ok,DC.ok]
def GL.eq (a b:GL):Bool:=Nat.beq a.t b.t&&(a.w==b.w)
def Zw (l:GL):List GL->Bool
 | []=>false
 | a::r=>match GL.eq l a with
   | true=>true
   | false=>Zw l r
def Rq:List GL->List GL->Bool
 | [],_=>true
 | l::ls,k=>match Zw l k with
   | true=>Rq ls k
   | false=>false
def Fs (H:As T) (nx:Nat) (k:List GL):Prop:= ∀ l∈k,l.ok H nx
theorem GL.az3 {H:As T} {nx:Nat} {a b:GL} (h:a.eq b=true) (ha:a.ok H nx) (hb:b.ok H nx):a.b=b.b:=by simp only [GL.eq,and_eq_true,beq_eq,beq_iff_eq]at h;rw [ha.2,hb.2,h.1,h.2]
theorem mV {H:As T} {nx:Nat} {l:GL}: ∀ {k:List GL},Zw l k=true->l.ok H nx->Fs H nx k->Be k=true->l.b=true
 | [],h,_,_,_=>by simp [Zw]at h
 | a::r,h,hl,hk,hc=>by
   unfold Zw at h;have hc':=Kf.1 hc;split at h
   ·rename_i he;rw [GL.az3 he hl (hk a (by simp))];exact hc' a (by simp)
   ·exact mV h hl (fun x hx=>hk x (by simp [hx])) (Kf.2 fun x hx=>hc' x (by simp [hx]))
theorem OY {H:As T} {nx:Nat}: ∀ {ls k:List GL},Rq ls k=true->Fs H nx ls->Fs H nx k->Be k=true->Be ls=true
 | [],_,_,_,_,_=>rfl
 | l::ls,k,h,h1,h2,hc=>by
   unfold Rq at h;split at h
   ·rename_i hh;have a:=mV hh (h1 l (by simp)) h2 hc;have b:=OY h (fun x hx=>h1 x (by simp [hx])) h2 hc;refine Kf.2 fun x hx=>?_;rcases mem_cons.1 hx with rfl | hx
    all_goals grind [Kf]
   ·cases h
def Af.arg (st:Af T) (key:List GL) (x:Operand):Option (DV T):=match st.ev x with
 | .g k v=>match Rq k key with
   | true=>some v
   | false=>none
 | v=>some v
theorem Af.afh {H:As T} {st:Af T} {key:List GL} {x:Operand} {v:DV T} (hw:AH H st) (hk:Fs H st.nx key) (h:st.arg key x=some v) (hc:Be key=true):
 v.ok H st.nx/\(st.toSt.arg (Be key) x).1/\(st.toSt.arg (Be key) x).2=v.toV:=by
 have hev:=Af.amf hw x;have e:=st.abS x;unfold Af.arg at h;unfold St.arg;split at h
 ·rename_i k v' hx;split at h
  ·rename_i hs;injection h with h;subst h;rw [hx]at e hev;simp only [DV.ok]at hev;simp only [DV.toV]at e;rw [e];have:=OY hs hev.1 hk hc;grind
  ·cases h
 ·rename_i Tj;injection h with h;subst h;refine⟨hev,?_⟩;rw [e];cases hv:st.ev x<;>simp_all [DV.toV]
def M (α:Type):=(R:Type)->(α->Option R)->Option R
namespace M
variable {α β:Type}
def ret (v:α):M α:=fun _ K=>K v
def no:M α:=fun _ _=>none
def sm (o:Option α):M α:=fun _ K=>match o with
 | some v=>K v
 | none=>none
def opt (o:Option β) (f:β->M α):M α:=fun R K=>o.bind fun x=>f x R K
def M_ (m:M β) (f:β->M α):M α:=fun R K=>m R fun x=>f x R K
end M
def Yl {α:Type} (m:M α) (Φ:α->Prop):Prop:= ∀ (R:Type) (K:α->Option R) (r:R),m R K=some r-> ∃ v,Φ v/\K v=some r
namespace Yl
variable {α β:Type} {Φ:α->Prop}
theorem ret {v:α} (h:Φ v):Yl (M.ret v) Φ:=fun _ _ _ hr=>⟨v,h,hr⟩
theorem no:Yl (M.no) Φ:=fun _ _ _ hr=>by cases hr
theorem sm {o:Option α} (h: ∀ v,o=some v->Φ v):Yl (M.sm o) Φ:=fun R K r hr=>by unfold M.sm at hr;grind
theorem opt {o:Option β} {f:β->M α} (h: ∀ x,o=some x->Yl (f x) Φ):Yl (M.opt o f) Φ:=fun R K r hr=>by unfold M.opt at hr;obtain⟨x,h1,h2⟩:=bS hr;exact h x h1 R K r h2
theorem M_ {m:M β} {f:β->M α} {Ψ:β->Prop} (hm:Yl m Ψ) (h: ∀ x,Ψ x->Yl (f x) Φ):Yl (M.M_ m f) Φ:=fun R K r hr=>by obtain⟨v,h1,h2⟩:=hm R _ r hr;exact h v h1 R K r h2
theorem mono {m:M α} {Ψ:α->Prop} (hm:Yl m Ψ) (h: ∀ x,Ψ x->Φ x):Yl m Φ:=fun R K r hr=>by obtain⟨v,h1,h2⟩:=hm R K r hr;grind
end Yl
def gk {α:Type} [Inhabited α] (key:List GL) (o:Option α):Option α:=match key with
 | []=>o
 | l::ls=>gd (Be (l::ls)) o
theorem SH {α:Type} [Inhabited α] {key:List GL} {o:Option α} {x:α} (h:gk key o=some x) (hc:Be key=true):o=some x:=by unfold gk at h;grind [xP]
end Go.PL
namespace Go.PL
open Go Go.RowKit
variable {T:Bo}
def WZ {den:Nat->Type} {T:Bo} (h: ∀ k,P6 den k->DC T):(ks:List Kd)->DK den ks->List (DC T)
 | [],_=>[]
 | k::ks,x=>h k x.1::WZ h ks x.2
def jv (E:Nat) (x:T.den E):List (DC T):=WZ (fun k y=> .k k y) (T.ks E) (T.un E x)
theorem Zx: ∀ (ks:List Kd) (y:DK T.den ks),Ar (WZ (T:=T) (fun k y=> .k k y) ks y)=BG T.enc ks y
 | [],_=>by simp [WZ,Ar,BG]
 | k::ks,y=>by simp only [WZ,Ar,BG,Zx ks,DC.toC]
theorem Gz (E:Nat) (x:T.den E):Ar (jv E x)=T.enc E x:=by rw [jv,Zx,T.aa2]
theorem mW: ∀ (ks:List Kd) (y:DK T.den ks),Ce (WZ (T:=T) (fun k y=> .k k y) ks y)
 | [],_=>by simp [WZ,Ce]
 | k::ks,y=>by simp only [WZ,Ce,DC.ok];exact⟨trivial,mW ks y.2⟩
theorem M6 (E:Nat) (x:T.den E):Ce (jv E x):=mW _ _
theorem fV {den:Nat->Type} {enc: ∀ E,den E->List C}: ∀ (ks:List Kd) (y:DK den ks),(BG enc ks y).length =ks.length
 | [],_=>rfl
 | k::ks,y=>by simp [BG,fV ks]
theorem AQ (E:Nat) (x:T.den E):(T.enc E x).length =T.sz E:=by rw [<-T.aa2,fV];rfl
theorem Zy {den:Nat->Type} {enc: ∀ E,den E->List C} (k:Kd) (x:P6 den k):(Bm enc k x).pure =true:=by cases k<;>rfl
theorem Zz {den:Nat->Type} {enc: ∀ E,den E->List C}: ∀ (ks:List Kd) (y:DK den ks),Ao (BG enc ks y)=true
 | [],_=>rfl
 | k::ks,y=>by simp only [BG,Ao,Zy,Zz ks,Bool.and_self]
theorem ZA (E:Nat) (x:T.den E):Ao (T.enc E x)=true:=by rw [<-T.aa2];exact Zz _ _
theorem vN (E:Nat) (l:List (T.den E)):Ao (l.flatMap (T.enc E))=true:=AV _ (ZA E) l
def Ij (s_:Bool):(k:Kd)->DC T->Option (P6 T.den k)
 | .int k, .k (.int k') n=>match k'==k with
   | true=>some n
   | false=>none
 | .bool, .k .bool b=>some b
 | .str, .k .str s=>some s
 | .l_ E, .k (.l_ E') l=>match Nat.decEq E' E with
   | .isTrue h=>some (show List (T.den E)from h▸l)
   | .isFalse _=>none
 | .l_ E, .c (.sl 0 [])=>some ([]:List (T.den E))
 | .l_ E, .c .s_ =>match s_ with
   | true=>some ([]:List (T.den E))
   | false=>none
 | _,_=>none
def fW (s_:Bool):(ks:List Kd)->List (DC T)->Option (DK T.den ks)
 | [],[]=>some ()
 | k::ks,c::cs=>match Ij s_ k c,fW s_ ks cs with
   | some x,some y=>some (x,y)
   | _,_=>none
 | _,_=>none
def xp (s_:Bool) (E:Nat) (cs:List (DC T)):Option (T.den E):=match fW s_ (T.ks E) cs with
 | some y=>some (T.bd E y)
 | none=>none
theorem CB {s_:Bool} {k:Kd} {c:DC T} {x:P6 T.den k} (h:Ij s_ k c=some x):Hf c.toC=Bm T.enc k x/\(s_=false->c.toC=Bm T.enc k x):=by
 unfold Ij at h;split at h
 ·split at h
  ·rename_i hb;have:=beq_iff_eq.1 hb;subst this;injection h with h;subst h;exact⟨rfl,fun _=>rfl⟩
  ·cases h
 ·injection h with h;subst h;exact⟨rfl,fun _=>rfl⟩
 ·injection h with h;subst h;exact⟨rfl,fun _=>rfl⟩
 ·split at h
  ·rename_i e _;subst e;injection h with h;subst h;exact⟨rfl,fun _=>rfl⟩
  ·cases h
 ·injection h with h;subst h;exact⟨rfl,fun _=>rfl⟩
 ·split at h
  ·injection h with h;subst h;exact⟨rfl,fun q=>by cases q⟩
  ·cases h
 ·cases h
theorem ZB {s_:Bool}: ∀ {ks:List Kd} {cs:List (DC T)} {y:DK T.den ks},fW s_ ks cs=some y->(Ar cs).map Hf=BG T.enc ks y/\(s_=false->Ar cs=BG T.enc ks y)
 | [],[],y,_=>by simp [Ar,BG]
 | [],_::_,_,h=>by simp [fW]at h
 | _::_,[],_,h=>by simp [fW]at h
 | k::ks,c::cs,y,h=>by
   unfold fW at h;split at h
   ·rename_i x y' h1 h2;injection h with h;subst h;obtain⟨a1,a2⟩:=CB h1;obtain⟨b1,b2⟩:=ZB h2;simp_all [Ar,BG]
   ·cases h
theorem Ik {s_:Bool} {E:Nat} {cs:List (DC T)} {x:T.den E} (h:xp s_ E cs=some x):(Ar cs).map Hf=T.enc E x/\(s_=false->Ar cs=T.enc E x):=by
 unfold xp at h;split at h
 ·rename_i y hy;injection h with h;subst h;rw [<-T.aa2,T.afv];exact ZB hy
 ·cases h
def LK (E:Nat):Nat->List (DC T)->Option (List (T.den E))
 | 0,_=>some []
 | n+1,cs=>match xp false E (cs.take (T.sz E)),LK E n (cs.drop (T.sz E))with
   | some x,some l=>some (x::l)
   | _,_=>none
theorem Jz (n:Nat) (cs:List (DC T)):Ar (cs.take n)=(Ar cs).take n:=by simp [CK,List.map_take]
theorem Ga (n:Nat) (cs:List (DC T)):Ar (cs.drop n)=(Ar cs).drop n:=by simp [CK,List.map_drop]
theorem CQ (a b:List (DC T)):Ar (a++b)=Ar a++Ar b:=by simp [CK]
theorem AM (a:List (DC T)):(Ar a).length =a.length:=by simp [CK]
theorem En {E:Nat}: ∀ {n:Nat} {cs:List (DC T)} {l:List (T.den E)},LK E n cs=some l->l.length=n/\ ∃ r,Ar cs=l.flatMap (T.enc E)++r
 | 0,cs,l,h=>by simp [LK]at h;simp_all
 | n+1,cs,l,h=>by
   unfold LK at h;split at h
   ·rename_i x l' h1 h2;injection h with h;subst h;have a:=(Ik h1).2 rfl;obtain⟨b1,r,b2⟩:=En h2;refine⟨by simp [b1],r,?_⟩;rw [Jz]at a;rw [Ga]at b2;rw [flatMap_cons,List.append_assoc, <-b2, <-a,List.take_append_drop]
   ·cases h
def C3 (ag:Bool) (off n:Nat) (cs:List (DC T)):DV T:=match ag with
 | true=> .agg ((cs.drop off).take n)
 | false=> .c (cs.getD off (.c .any))
theorem Hq (ag:Bool) (off n:Nat) (cs:List (DC T)):(C3 ag off n cs).toV =toV ag off n (Ar cs):=by
 cases ag
 ·simp only [C3,DV.toV,toV,CK];rw [if_neg (by simp),List.getD_eq_getElem?_getD,List.getD_eq_getElem?_getD,getElem?_map];grind [DC.toC]
 grind [C3,DV.toV,toV,Jz,Ga]
theorem U5 {cs:List (DC T)} (h:Ce cs) (n:Nat):Ce (cs.take n):=(by grind [C8])
theorem U6 {cs:List (DC T)} (h:Ce cs) (n:Nat):Ce (cs.drop n):=(by grind [C8])
theorem C9 {a b:List (DC T)} (h:Ce a) (k:Ce b):Ce (a++b):=(by grind [C8])
theorem Il {H:As T} {nx:Nat} (ag:Bool) (off n:Nat) {cs:List (DC T)} (h:Ce cs):(C3 ag off n cs).ok H nx:=by cases ag<;>grind [C3,DV.ok,DC.ok,C8]
def Bf:Ah->Ah->Bool
 | [],[]=>true
 | a::x,b::y=>match Nat.beq a b with
   | true=>Bf x y
   | false=>false
 | _,_=>false
theorem AN: ∀ {a b:Ah},Bf a b=true↔a=b
 | [],[]=>by simp [Bf]
 | [],_::_=>by simp [Bf]
 | _::_,[]=>by simp [Bf]
 | a::x,b::y=>by
   unfold Bf;cases h:Nat.beq a b with
   | true=>
     have:=Nat.eq_of_beq_eq_true h;subst this;simp [AN (a:=x) (b:=y)]
   | false=>
     have:a ≠ b:=fun e=>by subst e;simp at h
     simp [this]
def tM:List (DC T)->Bool
 | [.c (.mp _)]=>true
 | _=>false
def Hg:List (DE T)->Ah->Option (DE T)
 | [],_=>none
 | e::r,id=>match Bf e.id id with
   | true=>some e
   | false=>Hg r id
def DX.isM:DX T->Bool
 | .box cs=>tM cs
 | .row _ _=>false
 | .deep .. =>false
def Af.look (st:Af T) (id:Ah):Option (DX T):=match C4 id||Fh id with
 | true=>none
 | false=>match Hg st.so id with
   | some e=>match e.x.isM with
     | true=>none
     | false=>some e.x
   | none=>none
theorem CY: ∀ {l:List (DE T)} {id:Ah} {e:DE T},Hg l id=some e->e∈l/\e.id=id/\ ∀ p:Aw->Bool,(∀ x:DE T,x.id ≠ id->p x.toE=false)->p e.toE=true->(l.map DE.toE).find? p=some e.toE
 | [],_,_,h=>by simp [Hg]at h
 | x::r,id,e,h=>by
   unfold Hg at h;split at h
   ·rename_i hb;injection h with h;subst h;exact⟨by simp,AN.1 hb,fun p _ hp=>by simp [List.find?_cons,hp]⟩
   ·rename_i hb;obtain⟨h1,h2,h3⟩:=CY h;refine⟨by simp [h1],h2,fun p hp he=>?_⟩;have Tj:x.id ≠ id:=fun q=>by rw [AN.2 q]at hb;cases hb
    rw [map_cons,List.find?_cons,hp x Tj];exact h3 p hp he
theorem fX {cs:List (DC T)} (h:tM cs=false) (hk: ∀ c∈cs, ∀ kv,c.toC= .mp kv->c= .c (.mp kv)):iU (Ar cs)=false:=by
 match cs with
 | []=>rfl
 | [c]=>
   simp only [Ar,iU];grind [tM]
 | a::b::r=>
   simp only [Ar];generalize a.toC=x;generalize b.toC=y;generalize Ar r=z;cases x<;>rfl
theorem xZ (c:DC T) (kv:List (Int×Int)) (h:c.toC= .mp kv):c= .c (.mp kv):=by
 cases c with
 | c x=>grind [DC.toC]
 | k kd x=>cases kd<;>simp [DC.toC,Bm]at h
 | ip=>simp [DC.toC]at h
 | rp=>simp [DC.toC]at h
 | ap=>simp [DC.toC]at h
 | bs=>simp [DC.toC]at h
 | clo b f cs=>cases b<;>simp [DC.toC]at h
theorem Af.aiZ {st:Af T} {id:Ah} {x:DX T} (h:st.look id=some x): ∃ e,e∈st.so/\e.id=id/\e.x=x/\st.toSt.look id=some e.toE/\st.toSt.acS id=some e.toE/\Fh id=false/\C4 id=false:=by
 unfold Af.look at h;split at h
 ·cases h
 ·rename_i hd;simp only [or_eq_false_iff]at hd;split at h
  ·rename_i e he;split at h
   ·cases h
   ·rename_i hm;injection h with h;subst h;obtain⟨h1,h2,h3⟩:=CY he;have hM:e.toE.isM=false:=by
     unfold DE.toE Aw.isM;cases hx:e.x with
     | box cs=>
       rw [hx]at hm;exact fX hm (fun c _ kv q=>xZ c kv q)
     | row E l=>rfl
     | deep E n l h=>rfl
    have hid:=e.toE_id;refine⟨e,h1,h2,rfl,?_,?_,hd.2,hd.1⟩
    ·refine h3 _ (fun y hy=>?_) ?_
     all_goals grind [DE.toE_id]
    ·refine h3 _ (fun y hy=>?_) ?_
     all_goals grind [DE.toE_id]
  ·cases h
theorem DE.toE_box {e:DE T} {cs:List (DC T)} (h:e.x= .box cs):e.toE=⟨e.id,none,Ar cs,false⟩:=by unfold DE.toE;rw [h]
theorem DE.toE_row {e:DE T} {E:Nat} {l:List (T.den E)} (h:e.x= .row E l):e.toE=⟨e.id,some (E,T.sz E,l.length),l.flatMap (T.enc E),true⟩:=by unfold DE.toE;rw [h]
def FQ (ag:Bool) (off n N:Nat):Bool:=Nat.ble (off+n) N&&(ag||Nat.blt 0 n)
theorem CR {ag:Bool} {off n N:Nat} (h:FQ ag off n N=true):off+n<=N/\(ag=true\/0<n):=by simp_all [FQ]
def Ld (st:Af T) (id:Ah):Option (List (DC T)):=match st.look id with
 | some (.box cs)=>some cs
 | _=>none
def DG (st:Af T) (id:Ah):Option ((E:Nat)×List (T.den E)):=match st.look id with
 | some (.row E l)=>some ⟨E,l⟩
 | _=>none
theorem Hr {st:Af T} {id:Ah} {cs:List (DC T)} (h:Ld st id=some cs):st.toSt.look id=some ⟨id,none,Ar cs,false⟩/\st.toSt.acS id=some ⟨id,none,Ar cs,false⟩/\ ∃ e∈st.so,e.id=id/\e.x= .box cs:=by
 unfold Ld at h;split at h
 ·rename_i cs' hl;injection h with h;subst h;obtain⟨e,h1,h2,h3,h4,h5,_⟩:=Af.aiZ hl;grind [DE.toE_box]
 ·cases h
theorem BN {st:Af T} {id:Ah} {E:Nat} {l:List (T.den E)} (h:DG st id=some ⟨E,l⟩):st.toSt.look id=some ⟨id,some (E,T.sz E,l.length),l.flatMap (T.enc E),true⟩/\st.toSt.acS id=some ⟨id,some (E,T.sz E,l.length),l.flatMap (T.enc E),true⟩/\ ∃ e∈st.so,e.id=id/\e.x= .row E l:=by
 unfold DG at h;split at h
 ·rename_i E' l' hl;injection h with h;injection h with h1 h2;subst h1;have h2:=eq_of_heq h2;subst h2;obtain⟨e,h1,h2,h3,h4,h5,_⟩:=Af.aiZ hl;grind [DE.toE_row]
 ·cases h
theorem SI {H:As T} {st:Af T} (hw:AH H st) {id:Ah} {cs:List (DC T)} (h:Ld st id=some cs):Ce cs:=by obtain⟨_,_,e,h1,_,h3⟩:=Hr h;have:=(hw.so e h1).2.2;rw [h3]at this;exact this
def Kh (st:Af T) (id:Ah):Option ((E:Nat)×(Int×List (T.den E)×Option (Int×Nat))):=match C4 id with
 | true=>none
 | false=>match Hg st.so id with
   | some e=>match e.x with
     | .deep E n l h=>some ⟨E,(n,l,h)⟩
     | _=>none
   | none=>none
theorem B3 {st:Af T} {id:Ah} {E:Nat} {n:Int} {l:List (T.den E)} {h:Option (Int×Nat)} (hr:Kh st id=some ⟨E,(n,l,h)⟩):C4 id=false/\st.toSt.acS id=some ⟨id,some (E,T.sz E,l.length),Bq T E n l h,true⟩/\ ∃ e∈st.so,e.id=id/\e.x= .deep E n l h:=by
 unfold Kh at hr;split at hr
 ·cases hr
 ·rename_i hmk;split at hr
  ·rename_i e he;split at hr
   ·rename_i E' n' l' h' hx;injection hr with hr;injection hr with h1 h2;subst h1;have h2:=eq_of_heq h2;injection h2 with h2 h3;injection h3 with h3 h4;subst h2 h3 h4;obtain⟨a,b,c⟩:=CY he;have hE:e.toE=⟨id,some (E',T.sz E',l'.length),Bq T E' n' l' h',true⟩:=by grind [DE.toE]
    refine⟨hmk,?_,e,a,b,hx⟩;rw [<-hE];refine c _ (fun y hy=>?_) ?_
    all_goals grind [DE.toE_id,Aw.isM]
   ·cases hr
  ·cases hr
def tN (st:Af T) (id:Ah):Option ((E:Nat)×List (T.den E)):=match DG st id with
 | some r=>some r
 | none=>match Kh st id with
   | some ⟨E,(_,l,_)⟩=>some ⟨E,l⟩
   | none=>none
theorem ZC {st:Af T} {id:Ah} {E:Nat} {l:List (T.den E)} (h:tN st id=some ⟨E,l⟩): ∃ e,st.toSt.acS id=some e/\e.row=some (E,T.sz E,l.length):=by
 unfold tN at h;split at h
 ·rename_i r hr;injection h with h;subst h;exact⟨_,(BN hr).2.1,rfl⟩
 ·split at h
  ·rename_i E' n' l' h' hr;injection h with h;injection h with h1 h2;subst h1;have h2:=eq_of_heq h2;subst h2;exact⟨_,(B3 hr).2.1,rfl⟩
  ·cases h
theorem ZD: ∀ (ks:List Kd) (y:DK T.den ks),(BR T ks y).length =ks.length
 | [],_=>rfl
 | k::ks,y=>by simp only [BR,List.length_cons,ZD ks y.2]
theorem Eo (E:Nat) (x:T.den E):(T.aa4 E x).length =T.sz E:=ZD _ _
theorem Ki (E:Nat) (n:Int): ∀ (k:Int) (l:List (T.den E)),(AC T E n k l).length =l.length*T.sz E
 | _,[]=>by simp [AC]
 | k,x::l=>by rw [AC,List.length_append,Ki E n (k+1) l,List.length_cons,add_mul,one_mul,Nat.add_comm];grind [Eo,AQ]
theorem Ft (E:Nat) (n:Int) (l:List (T.den E)) (h:Option (Int×Nat)):(Bq T E n l h).length =l.length*T.sz E:=by unfold Bq;grind [Ki]
theorem Kj {E:Nat} {n:Int}: ∀ {l:List (T.den E)} {k:Int} {i:Nat} {x:T.den E} {p:Nat},l[i]? =some x->p<T.sz E->(AC T E n k l)[i*T.sz E+p]? =(if k+i<n then T.aa4 E x else T.enc E x)[p]?
 | [],_,_,_,_,h,_=>by simp at h
 | y::l,k,0,x,p,h,hp=>by
   simp only [List.getElem?_cons_zero,injEq]at h;subst h;rw [AC,Nat.zero_mul,zero_add,List.getElem?_append_left]
   all_goals grind [Eo,AQ]
 | y::l,k,i+1,x,p,h,hp=>by
   have hl:(if k<n then T.aa4 E y else T.enc E y).length =T.sz E:=by grind [Eo,AQ]
   rw [AC,List.getElem?_append_right (by rw [hl,add_mul,one_mul];omega),hl,show (i+1)*T.sz E+p - T.sz E=i*T.sz E+p by rw [add_mul,one_mul];omega];rw [Kj (by simpa using h) hp];congr 2;push_cast;rw [show k+1+(i:Int)=k+((i:Int)+1) by omega]
def P7:Kd->Bool
 | .l_ _=>false
 | _=>true
theorem fY: ∀ {ks:List Kd} {y:DK T.den ks} {p:Nat},(∀ k,ks[p]? =some k->P7 k=true)->(BR T ks y)[p]? =(BG T.enc ks y)[p]?
 | [],_,_,_=>rfl
 | k::ks,y,0,h=>by have:=h k rfl;simp only [BR,BG,List.getElem?_cons_zero,injEq];cases k<;>first | rfl | cases this
 | k::ks,y,p+1,h=>by simp only [BR,BG,List.getElem?_cons_succ];exact fY (fun k' hk=>h k' (by simpa using hk))
def mY (h:Option (Int×Nat)) (off n:Nat):Bool:=match h with
 | none=>true
 | some (_,o)=> !(Nat.ble off o&&Nat.blt o (off+n))
def qU (T:Bo) (E off n:Nat) (h:Option (Int×Nat)):Bool:=(((T.ks E).drop off).take n).all P7&&mY h off n
theorem qV {i j N p q:Nat} (hp:p<N) (hq:q<N) (h:i*N+p=j*N+q):p=q:=by grind [Nat.mul_comm,Nat.mul_add_mod,Nat.mod_eq_of_lt]
theorem ya {E:Nat} {nn:Int} {l:List (T.den E)} {h:Option (Int×Nat)} {i:Nat} {x:T.den E} {p:Nat} (hx:l[i]? =some x) (hp:p<T.sz E) (hf: ∀ k,(T.ks E)[p]? =some k->P7 k=true) (hh: ∀ j o,h=some (j,o)->o ≠ p/\o<T.sz E):
 (Bq T E nn l h)[i*T.sz E+p]? =(T.enc E x)[p]? :=by
 have base:(AC T E nn 0 l)[i*T.sz E+p]? =(T.enc E x)[p]? :=by
  rw [Kj hx hp];split
  ·rw [Bo.aa4,fY hf,T.aa2]
  ·rfl
 unfold Bq;split
 ·exact base
 ·rename_i j o;rw [List.getElem?_set_ne]
  ·exact base
  ·intro e;obtain⟨h1,h2⟩:=hh j o rfl;exact h1 (qV h2 hp e)
theorem yb {E:Nat} {nn:Int} {l:List (T.den E)} {h:Option (Int×Nat)} {i:Int} {x:T.den E} {off n:Nat} {ag:Bool} (hx:idx l i=some x) (ho:FQ ag off n (T.sz E)=true) (hd:qU T E off n h=true) (hb: ∀ j o,h=some (j,o)->o<T.sz E):
 i.toNat*T.sz E+off+n<=(Bq T E nn l h).length /\toV ag (i.toNat*T.sz E+off) n (Bq T E nn l h)=(C3 (T:=T) ag off n (jv E x)).toV :=by
 obtain⟨h1,h2⟩:=CR ho;have hi:=N7 hx;have hxx:l[i.toNat]? =some x:=by have:=fM hx;grind
 have hle:i.toNat*T.sz E+T.sz E<=l.length*T.sz E:=by have:(i.toNat+1)*T.sz E<=l.length*T.sz E:=Nat.mul_le_mul_right _ (by omega);grind
 simp only [qU,and_eq_true,all_eq_true]at hd;have key: ∀ p,off<=p->p<off+n->(Bq T E nn l h)[i.toNat*T.sz E+p]? =(T.enc E x)[p]? :=fun p p1 p2=>by
  refine ya hxx (by omega) (fun k hk=>?_) (fun j o e=>⟨fun eo=>?_,hb j o e⟩)
  ·refine hd.1 k ?_;refine mem_of_getElem? (i:=p - off) ?_;grind
  grind [mY,Nat.ble_eq_true_of_le,Nat.blt]
 refine⟨by rw [Ft];omega,?_⟩;rw [Hq,Gz];unfold toV;have hlen:(Bq T E nn l h).length =l.length*T.sz E:=Ft _ _ _ _;split
 ·congr 1;apply ext_getElem?;grind
 grind
theorem vQ {E:Nat} {nn:Int} {l:List (T.den E)} {i:Int} {x:T.den E} {off n:Nat} {ag:Bool} (hx:idx l i=some x) (hn:nn<=i) (ho:FQ ag off n (T.sz E)=true):
 i.toNat*T.sz E+off+n<=(Bq T E nn l none).length /\toV ag (i.toNat*T.sz E+off) n (Bq T E nn l none)=(C3 (T:=T) ag off n (jv E x)).toV :=by
 obtain⟨h1,h2⟩:=CR ho;have hi:=N7 hx;have hxx:l[i.toNat]? =some x:=by have:=fM hx;grind
 have hle:i.toNat*T.sz E+T.sz E<=l.length*T.sz E:=by have:(i.toNat+1)*T.sz E<=l.length*T.sz E:=Nat.mul_le_mul_right _ (by omega);grind
 have key: ∀ p,off<=p->p<off+n->(Bq T E nn l none)[i.toNat*T.sz E+p]? =(T.enc E x)[p]? :=fun p p1 p2=>by show (AC T E nn 0 l)[_]? =_;rw [Kj hxx (by omega),if_neg (by omega)]
 refine⟨by rw [Ft];omega,?_⟩;rw [Hq,Gz];unfold toV;have hlen:(Bq T E nn l none).length =l.length*T.sz E:=Ft _ _ _ _;split
 ·congr 1;apply ext_getElem?;grind
 grind
def yc (N:Nat):Option (Int×Nat)->Bool
 | none=>true
 | some (_,o)=>Nat.blt o N
def mZ (P:Program) (t:TypeId) (key:List GL) (st:Af T) (v:DV T):M (DV T):=
 match K0 P t with
 | none=> .no
 | some (ag,n)=>match v with
   | .c (.c (.ptr id off))=>match Ld st id with
     | some cs=>match FQ ag off n cs.length with
       | true=> .ret (C3 ag off n cs)
       | false=> .no
     | none=> .no
   | .c (.ip E _ _ x off)=>match FQ ag off n (T.sz E)with
     | true=> .ret (C3 ag off n (jv E x))
     | false=> .no
   | .c (.rp id N i off)=>match DG st id with
     | some ⟨E,l⟩=>match Nat.beq (T.sz E) N&&FQ ag off n N with
       | true=> .opt (gk key (idx l i)) fun x=> .ret (C3 ag off n (jv E x))
       | false=> .no
     | none=>match Kh st id with
       | some ⟨E,(nn,l,h)⟩=>match Nat.beq (T.sz E) N&&(FQ ag off n N&&(qU T E off n h&&yc (T.sz E) h))with
         | true=> .opt (gk key (idx l i)) fun x=> .ret (C3 ag off n (jv E x))
         | false=>match Nat.beq (T.sz E) N&&(FQ ag off n N&&h.isNone)with
           | true=> .opt (gk key (idx l i)) fun x=> .opt (gk key (k_ (nn<=i))) fun _=> .ret (C3 ag off n (jv E x))
           | false=> .no
       | none=> .no
   | .c (.ap id base m E i off)=>match Ld st id with
     | some cs=>match LK E m (cs.drop base),FQ ag off n (T.sz E)&&Nat.ble base cs.length with
       | some l,true=> .opt (gk key (idx l i)) fun x=> .ret (C3 ag off n (jv E x))
       | _,_=> .no
     | none=> .no
   | _=> .no
def Rd (H:As T) (P:Program) (st:Af T) (key:List GL) (op:Op) (v:DV T):Prop:=
 Be key=true->v.ok H st.nx/\(DZ P st.toSt (Be key) op).1/\(DZ P st.toSt (Be key) op).2=v.toV
theorem m6 {E:Nat} {l:List (T.den E)} {i:Int} {x:T.den E} {off n:Nat} {ag:Bool} (hx:idx l i=some x) (ho:FQ ag off n (T.sz E)=true):
 i.toNat*T.sz E+off+n<=(l.flatMap (T.enc E)).length /\toV ag (i.toNat*T.sz E+off) n (l.flatMap (T.enc E))=(C3 (T:=T) ag off n (jv E x)).toV :=by
 obtain⟨h1,h2⟩:=CR ho;refine tF hx (fun y=>AQ E y) rfl h1 h2 ?_;rw [Hq,Gz]
theorem ZE {H:As T} {P:Program} {t:TypeId} {key:List GL} {st:Af T} {v:DV T} (hw:AH H st) (hv:Be key=true->v.ok H st.nx):
 Yl (mZ P t key st v) (fun r=>Be key=true->r.ok H st.nx/\(DM P t st.toSt v.toV).1/\(DM P t st.toSt v.toV).2=r.toV):=by
 unfold mZ;split
 ·exact Yl.no
 ·rename_i ag n ht;split
  ·rename_i id off;split
   ·rename_i cs hb;split
    ·rename_i ho;obtain⟨h1,h2⟩:=CR ho;refine Yl.ret fun _=>⟨Il _ _ _ (SI hw hb),?_⟩;simp only [DV.toV,DC.toC,DM,ht,(Hr hb).2.1];rw [Hq,AM];grind
    ·exact Yl.no
   ·exact Yl.no
  ·rename_i E l i x off;split
   ·rename_i ho;refine Yl.ret fun hc=>⟨Il _ _ _ (M6 E x),?_⟩;have hx:=hv hc;simp only [DV.ok,DC.ok]at hx;obtain⟨a,b⟩:=m6 (T:=T) hx ho;simp only [DV.toV,DC.toC,DM,ht];exact⟨⟨a,(CR ho).2⟩,b⟩
   ·exact Yl.no
  ·rename_i id N i off;split
   ·rename_i E l hb;split
    ·rename_i ho;simp only [and_eq_true,beq_eq]at ho;obtain⟨e,ho⟩:=ho;subst e;refine Yl.opt fun x hx=>Yl.ret fun hc=>⟨Il _ _ _ (M6 E x),?_⟩;obtain⟨a,b⟩:=m6 (T:=T) (SH hx hc) ho;simp only [DV.toV,DC.toC,DM,ht,(BN hb).2.1];exact⟨⟨a,(CR ho).2⟩,b⟩
    ·exact Yl.no
   ·split
    ·rename_i E nn l h hr;split
     ·rename_i ho;simp only [and_eq_true,beq_eq]at ho;obtain⟨e,ho,hd,hi⟩:=ho;subst e;refine Yl.opt fun x hx=>Yl.ret fun hc=>⟨Il _ _ _ (M6 E x),?_⟩;obtain⟨a,b⟩:=yb (T:=T) (nn:=nn) (SH hx hc) ho hd (fun j o e=>by simp_all [yc]);simp only [DV.toV,DC.toC,DM,ht,(B3 hr).2.1];exact⟨⟨a,(CR ho).2⟩,b⟩
     ·split
      ·rename_i ho;simp only [and_eq_true,beq_eq,Option.isNone_iff_eq_none]at ho;obtain⟨e,ho,hn⟩:=ho;subst e hn;refine Yl.opt fun x hx=>Yl.opt fun u hu=>Yl.ret fun hc=>⟨Il _ _ _ (M6 E x),?_⟩;obtain⟨a,b⟩:=vQ (T:=T) (nn:=nn) (SH hx hc) (Cm (SH hu hc)) ho;simp only [DV.toV,DC.toC,DM,ht,(B3 hr).2.1];exact⟨⟨a,(CR ho).2⟩,b⟩
      ·exact Yl.no
    ·exact Yl.no
  ·rename_i id base m E i off;split
   ·rename_i cs hb;split
    ·rename_i l hl ho;refine Yl.opt fun x hx=>Yl.ret fun hc=>⟨Il _ _ _ (M6 E x),?_⟩;simp only [and_eq_true,ble_eq]at ho;obtain⟨ho,aqS⟩:=ho;obtain⟨h1,h2⟩:=CR ho;obtain⟨hlen,r,hr⟩:=En hl;rw [Ga]at hr;have:=js (cs:=Ar cs) (pre:=(Ar cs).take base) (post:=r) (base:=base) (e:=T.enc E) (N:=T.sz E) (o:=off) (n:=n) (ag:=ag) (v:=(C3 (T:=T) ag off n (jv E x)).toV) (off:=base+i.toNat*T.sz E+off)
      (by grind [List.take_append_drop]) (by grind [AM]) (SH hx hc) (fun y=>AQ E y) (by omega) h1 h2 (by rw [Hq,Gz])
     simp_all [DV.toV,DC.toC,DM,Hr]
    ·exact Yl.no
   ·exact Yl.no
  ·exact Yl.no
end Go.PL
namespace Go.PL
open Go Go.RowKit
variable {T:Bo}
def ZF (st:Af T):Operand->Nat
 | .tmp t=>match Nat.blt t st.m with
   | true=>Zs st.tm t
   | false=>0
 | _=>0
def U7 (key:List GL) (tc:Nat) (w p:Bool):List GL:=match tc with
 | 0=>key
 | t+1=>⟨t,w,p==w⟩::key
def U8:DV T->Option (List GL×Bool)
 | .c (.k .bool q)=>some ([],q)
 | .g k (.c (.k .bool q))=>some (k,q)
 | _=>none
def yd (key:List GL) (tc:Nat) (p:Bool) (a b:DV T):M (DV T):=
 match U8 a,U8 b with
 | some (ka,q),some (kb,r)=>match Rq ka (U7 key tc true p),Rq kb (U7 key tc false p)with
   | true,true=> .ret (.c (.k .bool (if p then q else r)))
   | _,_=> .no
 | _,_=> .no
def ZG (op:BinOp) (k:IntKind) (a b:Int):DC T:=
 match op with
 | .add => .k (.int k) (k.wrap (a+b))
 | .sub => .k (.int k) (k.wrap (a - b))
 | .mul => .k (.int k) (k.wrap (a*b))
 | .quo => .k (.int k) (k.wrap (a.tdiv b))
 | .rem => .k (.int k) (a.tmod b)
 | .and => .k (.int k) (Fn k a b)
 | .or => .k (.int k) (bOr k a b)
 | .xor => .k (.int k) (LH k a b)
 | .andNot => .k (.int k) (iW k a b)
 | .shl => .k (.int k) (k.wrap (a*2 ^ (min b.toNat k.bits)))
 | .shr => .k (.int k) (a.fdiv (2 ^ (min b.toNat k.bits)))
 | .eql => .k .bool (a==b)
 | .neq => .k .bool (a != b)
 | .lss => .k .bool (decide (a<b))
 | .leq => .k .bool (decide (a<=b))
 | .gtr => .k .bool (decide (b<a))
 | .geq => .k .bool (decide (b<=a))
theorem ye (op:BinOp) (k:IntKind) (a b:Int):(ZG (T:=T) op k a b).toC =(K1 op k a b).2/\(ZG (T:=T) op k a b).ok :=by cases op<;>exact⟨rfl,by simp only [ZG,DC.ok]⟩
def Ahk (op:BinOp) (a b:List UInt8):Option (DC T):=
 match op with
 | .eql =>some (.k .bool (a==b))
 | .neq =>some (.k .bool (a != b))
 | .lss =>some (.k .bool (Op.bytesLess a b))
 | .leq =>some (.k .bool (Op.bytesLess a b||a==b))
 | .gtr =>some (.k .bool (!(Op.bytesLess a b||a==b)))
 | .geq =>some (.k .bool (!Op.bytesLess a b))
 | _=>none
def m7 (op:BinOp) (b:Bool):Option (DC T):=
 match op with
 | .eql =>some (.k .bool b)
 | .neq =>some (.k .bool !b)
 | _=>none
def Tf {α:Type} (b:Bool) (m:M α):M α:=match b with
 | true=>m
 | false=> .no
theorem Yl.Tf {α:Type} {Φ:α->Prop} {b:Bool} {m:M α} (h:b=true->Yl m Φ):Yl (PL.Tf b m) Φ:=by
 cases b with
 | true=>exact h rfl
 | false=>exact Yl.no
def yf:Operand->Bool
 | .const (.int _ n)=> !(decide (n=0))
 | _=>false
def yg:Operand->Bool
 | .const (.int _ n)=>decide (0<=n)
 | _=>false
def nd (lit:Bool) (key:List GL) (p:Prop) [Decidable p] (v:DV T):M (DV T):=match lit with
 | true=> .ret v
 | false=> .opt (gk key (k_ p)) fun _=> .ret v
def yh (op:BinOp) (key:List GL) (nz nn:Bool) (k:IntKind) (a b:Int):M (DV T):=
 match op with
 | .quo =>nd nz key (b ≠ 0) (.c (ZG .quo k a b))
 | .rem =>nd nz key (b ≠ 0) (.c (ZG .rem k a b))
 | .shl =>nd nn key (0<=b) (.c (ZG .shl k a b))
 | .shr =>nd nn key (0<=b) (.c (ZG .shr k a b))
 | op=> .ret (.c (ZG op k a b))
def AdS (op:BinOp) (key:List GL) (a b:List UInt8):M (DV T):=
 match op with
 | .add => .opt (gk key (cat a b)) fun s=> .ret (.c (.k .str s))
 | op=>match Ahk op a b with
   | some v=> .ret (.c v)
   | none=> .no
def AdT (op:BinOp) (a b:Bool):M (DV T):=
 match op with
 | .eql => .ret (.c (.k .bool (a==b)))
 | .neq => .ret (.c (.k .bool (a != b)))
 | _=> .no
def AeW (P:Program) (op:BinOp) (t:TypeId) (key:List GL) (kc nz nn:Bool) (x y:DV T):M (DV T):=
 match x,y with
 | .c (.k (.int k) a), .c (.k (.int k') b)=>Tf (kEq op k k') (yh op key nz nn k a b)
 | .c (.k .str a), .c (.k .str b)=>AdS op key a b
 | .c (.k .bool a), .c (.k .bool b)=>Tf (YR P t) (AdT op a b)
 | .c (.c .aak), .c (.c .aak)=>Tf (kc&&K2 P t)<|match m7 op true with
   | some v=> .ret (.c v)
   | none=> .no
 | .c (.c .held), .c (.c .aak)=>Tf (K2 P t)<|match m7 op false with
   | some v=> .ret (.c v)
   | none=> .no
 | .c (.c (.ptr _ _)), .c (.c .acu)=>Tf (L9 P t)<|match m7 op false with
   | some v=> .ret (.c v)
   | none=> .no
 | .c (.c .acu), .c (.c .acu)=>Tf (L9 P t)<|match m7 op true with
   | some v=> .ret (.c v)
   | none=> .no
 | .c (.rp _ _ _ _), .c (.c .acu)=>Tf (L9 P t)<|match m7 op false with
   | some v=> .ret (.c v)
   | none=> .no
 | .c (.ip _ _ _ _ _), .c (.c .acu)=>Tf (L9 P t)<|match m7 op false with
   | some v=> .ret (.c v)
   | none=> .no
 | .agg cs, .agg ds=>match xp false t cs,xp false t ds with
   | some x,some y=>Tf (qu P t (Ar cs) (Ar ds))<|match op with
     | .eql => .ret (.c (.k .bool (T.beq t x y)))
     | .neq => .ret (.c (.k .bool !(T.beq t x y)))
     | _=> .no
   | _,_=> .no
 | _,_=> .no
section
variable {H:As T} {P:Program} {st:Af T} {key:List GL}
theorem fZ (hw:AH H st) (hk:Fs H st.nx key) {c:Operand} {p:Bool} (hp:st.arg key c=some (.c (.k .bool p))) (w:Bool):Fs H st.nx (U7 key (ZF st c) w p):=by
 unfold U7;split
 ·exact hk
 ·rename_i t ht;intro l hl;rcases mem_cons.1 hl with rfl | hl
  ·unfold ZF at ht;split at ht
   ·rename_i i;split at ht
    ·rename_i hb;obtain⟨h1,h2⟩:=Zt hw.tm ht;refine⟨h1,?_⟩;show (p==w)=(ju (H.v t)==w);rw [h2];have e:st.ev (.tmp i)=lk st.tm i:=by show st.get i=_;unfold Af.get;rw [hb]
     unfold Af.arg at hp;rw [e]at hp;split at hp
     ·rename_i k v hv;split at hp
      ·injection hp with hp;subst hp;rw [hv];rfl
      ·cases hp
     ·injection hp with hp;rw [hp];rfl
    ·cases ht
   ·cases ht
  ·exact hk l hl
theorem W0 {tc:Nat} {w p:Bool} (hc:Be key=true) (hp:p=w):Be (U7 key tc w p)=true:=by
 unfold U7;split
 ·exact hc
 ·refine Kf.2 fun l hl=>?_;rcases mem_cons.1 hl with rfl | hl
  all_goals grind [Kf]
theorem W2 {v:DV T} {k:List GL} {q:Bool} (h:U8 v=some (k,q)):Rb v.toV=some (Be k,q):=by
 unfold U8 at h;split at h
 ·injection h with h;injection h with h1 h2;subst h1 h2;rfl
 ·injection h with h;injection h with h1 h2;subst h1 h2;rfl
 ·cases h
theorem f0 {v:DV T} {k:List GL} {q:Bool} (h:U8 v=some (k,q)) {nx:Nat} (hv:v.ok H nx):Fs H nx k:=by
 unfold U8 at h;split at h
 ·injection h with h;injection h with h1 h2;subst h1 h2;intro l hl;cases hl
 ·injection h with h;injection h with h1 h2;subst h1 h2;simp only [DV.ok]at hv;exact hv.1
 ·cases h
theorem yi (hw:AH H st) (hk:Fs H st.nx key) {c a b:Operand} {p:Bool} (hp:st.arg key c=some (.c (.k .bool p))):
 Yl (yd key (ZF st c) p (st.ev a) (st.ev b)) (fun v=>Be key=true->v.ok H st.nx/\(YV p (st.toSt.ev a) (st.toSt.ev b)).1/\(YV p (st.toSt.ev a) (st.toSt.ev b)).2=v.toV):=by
 unfold yd;split
 ·rename_i ka q kb r h1 h2;split
  ·rename_i s1 s2;refine Yl.ret fun hc=>⟨by simp only [DV.ok,DC.ok],?_⟩;unfold YV;rw [st.abS,st.abS,W2 h1,W2 h2];refine⟨⟨fun e=>OY s1 (f0 h1 (Af.amf hw a)) (fZ hw hk hp true) (W0 hc e),fun e=>OY s2 (f0 h2 (Af.amf hw b)) (fZ hw hk hp false) (W0 hc e)⟩,?_⟩;rfl
  ·exact Yl.no
 ·exact Yl.no
theorem JA {op:BinOp} {b:Bool} {v:DC T} (h:m7 op b=some v) {s:Prop} (hs:s):(OJ op b s).1/\(OJ op b s).2= .c v.toC/\v.ok:=by
 unfold m7 at h;split at h
 ·injection h with h;subst h;exact⟨hs,rfl,by simp only [DC.ok]⟩
 ·injection h with h;subst h;exact⟨hs,rfl,by simp only [DC.ok]⟩
 ·cases h
theorem tO {lit:Bool} {p:Prop} [Decidable p] {v:DV T} (hl:lit=true->p):Yl (nd lit key p v) (fun r=>Be key=true->p/\r=v):=by
 unfold nd;split
 ·exact Yl.ret (by grind)
 ·exact Yl.opt fun u hu=>Yl.ret fun hc=>by have:=Cm (SH hu hc);grind
theorem yj {op:BinOp} {nz nn:Bool} {k:IntKind} {a b:Int} (h1:nz=true->b ≠ 0) (h2:nn=true->0<=b):Yl (yh (T:=T) op key nz nn k a b) (fun v=>Be key=true->(K1 op k a b).1/\v= .c (ZG op k a b)):=by
 unfold yh;split
 ·exact tO h1
 ·exact tO h1
 ·exact tO h2
 ·exact tO h2
 ·refine Yl.ret fun hc=>⟨?_,rfl⟩;cases op<;>first | trivial | simp_all
def AdU (nz nn:Bool) (y:DV T):Prop:= ∀ (k:IntKind) (b:Int),y= .c (.k (.int k) b)->(nz=true->b ≠ 0)/\(nn=true->0<=b)
theorem AbB {op:BinOp} {t:TypeId} {kc nz nn:Bool} {x y:DV T} (azj:AdU nz nn y):
 Yl (AeW P op t key kc nz nn x y) (fun v=>Be key=true->v.ok H st.nx/\(M1 P op t kc x.toV y.toV).1/\(M1 P op t kc x.toV y.toV).2=v.toV):=by
 unfold AeW;split
 ·rename_i k a k' b;refine Yl.Tf fun hb=>?_;have hb':=mF hb;have aF9:(K1 op k a b).1->(DV.c (ZG (T:=T) op k a b)).ok H st.nx/\(M1 P op t kc (DV.c (T:=T) (.k (.int k) a)).toV (DV.c (T:=T) (.k (.int k') b)).toV).1/\(M1 P op t kc (DV.c (T:=T) (.k (.int k) a)).toV (DV.c (T:=T) (.k (.int k') b)).toV).2=(DV.c (ZG (T:=T) op k a b)).toV :=by intro hi;obtain⟨q1,q2⟩:=ye (T:=T) op k a b;simp_all [DV.ok,DV.toV,DC.toC,Bm,M1,XM]
  obtain⟨l1,l2⟩:=azj k' b rfl;exact(yj l1 l2).mono (by grind)
 ·rename_i a b;unfold AdS;split
  ·refine Yl.opt fun s hs=>Yl.ret fun hc=>?_;have:=SH hs hc;simp only [DV.ok,DC.ok,DV.toV,DC.toC,Bm,M1,XM,L7,true_and];exact⟨AdN this,by rw [AdO this]⟩
  ·rename_i Tj;split
   ·rename_i v hv;refine Yl.ret fun hc=>?_;unfold Ahk at hv;split at hv<;>first
     | (injection hv with hv;subst hv;simp only [DV.ok,DC.ok,DV.toV,DC.toC,Bm,M1,XM,L7,and_self])
     | grind
   ·exact Yl.no
 ·rename_i a b;refine Yl.Tf fun hb=>?_;unfold AdT;split
  ·exact Yl.ret fun _=>⟨by simp only [DV.ok,DC.ok],hb,rfl⟩
  ·exact Yl.ret fun _=>⟨by simp only [DV.ok,DC.ok],hb,rfl⟩
  ·exact Yl.no
 ·refine Yl.Tf fun hb=>?_;split
  ·rename_i v hv;refine Yl.ret fun _=>?_;simp only [and_eq_true]at hb;obtain⟨a,b,c⟩:=JA (s:=kc=true/\K2 P t=true) hv hb;exact⟨by grind [DV.ok],a,by simp only [DV.toV];exact b⟩
  ·exact Yl.no
 ·refine Yl.Tf fun hb=>?_;split
  ·rename_i v hv;refine Yl.ret fun _=>?_;obtain⟨a,b,c⟩:=JA (s:=K2 P t=true) hv hb;exact⟨by grind [DV.ok],a,by simp only [DV.toV];exact b⟩
  ·exact Yl.no
 ·refine Yl.Tf fun hb=>?_;split
  ·rename_i v hv;refine Yl.ret fun _=>?_;obtain⟨a,b,c⟩:=JA (s:=L9 P t=true) hv hb;exact⟨by grind [DV.ok],a,by simp only [DV.toV];exact b⟩
  ·exact Yl.no
 ·refine Yl.Tf fun hb=>?_;split
  ·rename_i v hv;refine Yl.ret fun _=>?_;obtain⟨a,b,c⟩:=JA (s:=L9 P t=true) hv hb;exact⟨by grind [DV.ok],a,by simp only [DV.toV];exact b⟩
  ·exact Yl.no
 ·refine Yl.Tf fun hb=>?_;split
  ·rename_i v hv;refine Yl.ret fun _=>?_;obtain⟨a,b,c⟩:=JA (s:=L9 P t=true) hv hb;exact⟨by grind [DV.ok],a,by simp only [DV.toV];exact b⟩
  ·exact Yl.no
 ·refine Yl.Tf fun hb=>?_;split
  ·rename_i v hv;refine Yl.ret fun _=>?_;obtain⟨a,b,c⟩:=JA (s:=L9 P t=true) hv hb;exact⟨by grind [DV.ok],a,by simp only [DV.toV];exact b⟩
  ·exact Yl.no
 ·rename_i cs ds;split
  ·rename_i x y h1 h2;refine Yl.Tf fun hb=>?_;have e:T.beq t x y=BW (Ar cs) (Ar ds):=by rw [T.ajc,(Ik h1).2 rfl,(Ik h2).2 rfl]
   split
   ·refine Yl.ret fun _=>⟨by simp only [DV.ok,DC.ok],?_⟩;simp_all [DV.toV,DC.toC,Bm,M1,mu]
   ·refine Yl.ret fun _=>⟨by simp only [DV.ok,DC.ok],?_⟩;simp_all [DV.toV,DC.toC,Bm,M1,mu]
   ·exact Yl.no
  ·exact Yl.no
 ·exact Yl.no
end
end Go.PL
namespace Go.PL
open Go Go.RowKit
variable {T:Bo}
def dun (op:UnOp):DV T->M (DV T)
 | .c (.k (.int k) n)=>match op with
   | .neg => .ret (.c (.k (.int k) (k.wrap (0 - (show Int from n)))))
   | .xor => .ret (.c (.k (.int k) (LH k (if k.signed then -1 else k.max) n)))
   | _=> .no
 | .c (.k .bool b)=>match op with
   | .not => .ret (.c (.k .bool !(show Bool from b)))
   | _=> .no
 | _=> .no
def yk (P:Program) (src dst:TypeId):DV T->M (DV T)
 | .c (.k (.int _) n)=>match ma P dst with
   | some k=>Tf (Abe P src) (.ret (.c (.k (.int k) (k.wrap n))))
   | none=> .no
 | .c (.k .str s)=>Tf (Eh P src&&Eh P dst) (.ret (.c (.k .str s)))
 | _=> .no
def AbC (st:Af T) (key:List GL):Option Operand->Option (Option Int)
 | none=>some none
 | some x=>match st.arg key x with
   | some (.c (.k (.int _) n))=>some (some n)
   | _=>none
def AdV (key:List GL) (s:List UInt8) (lo hi:Option Int):M (DV T):=
 .opt (gk key (Zn s (lo.getD 0) (hi.getD s.length))) fun r=> .ret (.c (.k .str r))
def AdW (key:List GL) (E:Nat) (l:List (T.den E)) (lo hi:Option Int):M (DV T):=
 .opt (gk key (qR l (lo.getD 0) (hi.getD l.length))) fun r=> .ret (.c (.k (.l_ E) r))
def AeX (P:Program) (t:TypeId) (key:List GL) (x:DV T) (lo hi:Option Int):M (DV T):=
 match x with
 | .c (.k .str s)=>Tf (Eh P t) (AdV key s lo hi)
 | .c (.k (.l_ E) l)=>match Dk P t with
   | some (_,n)=>Tf (Nat.beq n (T.sz E)) (AdW key E l lo hi)
   | none=> .no
 | _=> .no
def yl (P:Program) (s:TypeId) (f:Nat) (x:DV T):M (DV T):=
 match xu P s f with
 | some (o,_,n)=>Tf (Nat.blt 0 n)<|match x with
   | .c (.c (.ptr id off))=> .ret (.c (.c (.ptr id (off+o))))
   | .c (.ip E l i x off)=> .ret (.c (.ip E l i x (off+o)))
   | .c (.rp id N i off)=> .ret (.c (.rp id N i (off+o)))
   | .c (.ap id base m E i off)=> .ret (.c (.ap id base m E i (off+o)))
   | _=> .no
 | none=> .no
def qW (P:Program) (t:TypeId) (f:Nat) (x:DV T):M (DV T):=
 match x with
 | .agg cs=>match xu P t f with
   | some (o,ag,n)=>Tf (FQ ag o n cs.length) (.ret (C3 ag o n cs))
   | none=> .no
 | _=> .no
def m8 (key:List GL) (E:Nat) (l:List (T.den E)) (i:Int) (f:T.den E->DV T):M (DV T):= .opt (gk key (idx l i)) fun x=> .ret (f x)
def AeY (P:Program) (t:TypeId) (key:List GL) (st:Af T) (x y:DV T):M (DV T):=
 match y with
 | .c (.k (.int _) i)=>match x with
   | .c (.k (.l_ E) l)=>match Dk P t with
     | some (_,n)=>Tf (Nat.beq n (T.sz E)) (m8 key E l i fun x=> .c (.ip E l i x 0))
     | none=> .no
   | .c (.c (.e_ id))=>match Dk P t,tN st id with
     | some (_,n),some ⟨E,l⟩=>m8 key E l i fun _=> .c (.rp id n i 0)
     | _,_=> .no
   | .c (.c (.ptr id off))=>match Gx P t,Ld st id with
     | some (k,e,n),some cs=>match LK e k (cs.drop off)with
       | some l=>Tf (Nat.beq n (T.sz e)&&Nat.ble off cs.length) (m8 key e l i fun _=> .c (.ap id off k e i 0))
       | none=> .no
     | _,_=> .no
   | _=> .no
 | _=> .no
def AdX (key:List GL) (s:List UInt8) (i:Int):M (DV T):= .opt (gk key (IS s i)) fun r=> .ret (.c (.k (.int .u8) r))
def ym (P:Program) (t:TypeId) (key:List GL) (x y:DV T):M (DV T):=
 match y with
 | .c (.k (.int _) i)=>match x with
   | .c (.k .str s)=>Tf (Eh P t) (AdX key s i)
   | .agg cs=>match Gx P t with
     | some (k,e,n)=>match K0 P e,LK e k cs with
       | some (ag,_),some l=>Tf (Nat.beq n (T.sz e)&&(Nat.blt 0 n&&Nat.beq cs.length (k*n))) (m8 key e l i fun x=>C3 ag 0 n (jv e x))
       | _,_=> .no
     | none=> .no
   | _=> .no
 | _=> .no
def AeZ (i:Nat):DV T->M (DV T)
 | .tup vs=>Tf (Nat.blt i vs.length) (.ret (vs.getD i .u))
 | _=> .no
def yn:DV T->M (DV T)
 | .c (.c (.ptr id off))=> .ret (.c (.c (.ptr id off)))
 | .c (.c (.fn f))=> .ret (.c (.c (.fn f)))
 | .c (.ip E l i x off)=> .ret (.c (.ip E l i x off))
 | .c (.rp id N i off)=> .ret (.c (.rp id N i off))
 | .c (.ap id b m E i off)=> .ret (.c (.ap id b m E i off))
 | .c (.clo b f cs)=> .ret (.c (.clo b f cs))
 | _=> .no
def Ae0 (P:Program) (t:TypeId) (st:Af T) (x:DV T):M (DV T):=
 match x with
 | .c (.k .str s)=>Tf (Eh P t) (.ret (.c (.k (.int .i64) ((List.length (α:=UInt8) s:Nat):Int))))
 | .c (.k (.l_ E) l)=>Tf (EV P t) (.ret (.c (.k (.int .i64) ((List.length (α:=T.den E) l:Nat):Int))))
 | .c (.c (.e_ id))=>match tN st id with
   | some ⟨_,l⟩=>Tf (EV P t) (.ret (.c (.k (.int .i64) ((l.length:Nat):Int))))
   | none=> .no
 | .c (.bs _ _ _ n)=>Tf (EV P t) (.ret (.c (.k (.int .i64) ((n.toNat:Nat):Int))))
 | .agg _=>match Gx P t with
   | some (k,_,_)=> .ret (.c (.k (.int .i64) ((k:Nat):Int)))
   | none=> .no
 | .c (.c (.ptr _ _))=>match Gx P t with
   | some (k,_,_)=> .ret (.c (.k (.int .i64) ((k:Nat):Int)))
   | none=> .no
 | _=> .no
def I7 (st:Af T) (key:List GL):List Operand->Option (List (DV T))
 | []=>some []
 | x::xs=>match st.arg key x,I7 st key xs with
   | some v,some vs=>some (v::vs)
   | _,_=>none
abbrev Ajl (x:Int) (ys:List Int):Int:=ys.foldl (fun a y=>if y<a then y else a) x
abbrev Ajm (x:Int) (ys:List Int):Int:=ys.foldl (fun a y=>if a<y then y else a) x
def AdY (k:IntKind) (x:Int) (ys:List Int):DV T:= .c (.k (.int k) (Ajl x ys))
def AdZ (k:IntKind) (x:Int) (ys:List Int):DV T:= .c (.k (.int k) (Ajm x ys))
def ZH:List (DV T)->Option (IntKind×Int×List Int)
 | [.c (.k (.int k) x)]=>some (k,x,[])
 | .c (.k (.int k) x)::vs=>match ZH vs with
   | some (_,y,ys)=>some (k,x,y::ys)
   | none=>none
 | _=>none
def qY:Value->Option (DC T)
 | .int k n=>some (.k (.int k) n)
 | .bool b=>some (.k .bool b)
 | .string s=>some (.k .str s.data.toList)
 | v=>match Y2 v with
   | some c=>some (.c c)
   | none=>none
def SJ:List Value->Option (List (DC T))
 | []=>some []
 | v::vs=>match qY v,SJ vs with
   | some c,some cs=>some (c::cs)
   | _,_=>none
def ZI (P:Program) (t:TypeId):Option (List (DC T)):=
 match P.info? t with
 | some i=>match i.zero with
   | some z=>SJ z.cells.toList
   | none=>none
 | none=>none
def DV.cells:DV T->Option (List (DC T))
 | .c x=>some [x]
 | .agg cs=>some cs
 | _=>none
def W3 (place:Nat->Option (Nat×Nat)) (cells:List (DC T)):List (Nat×DV T)->Option (List (DC T))
 | []=>some cells
 | (i,v)::rest=>match place i,v.cells with
   | some (off,size),some cs=>match Nat.beq cs.length size&&Nat.ble (off+size) cells.length with
     | true=>W3 place (cells.take off++(cs++cells.drop (off+size))) rest
     | false=>none
   | _,_=>none
def Hs (st:Af T) (key:List GL):List (Nat×Operand)->Option (List (Nat×DV T))
 | []=>some []
 | (i,x)::r=>match st.arg key x,Hs st key r with
   | some v,some vs=>some ((i,v)::vs)
   | _,_=>none
def gc:List (DV T)->Option (List (DC T))
 | []=>some []
 | .c x::vs=>match gc vs with
   | some cs=>some (x::cs)
   | none=>none
 | _=>none
def qZ (P:Program) (t:TypeId) (key:List GL) (st:Af T) (ps:List (Nat×Operand)):M (DV T):=
 match ZI P t,Hs st key ps with
 | some z,some vs=>match W3 (plc P t) z vs with
   | some cs=>Tf (tu P t) (.ret (.agg cs))
   | none=> .no
 | _,_=> .no
def Mf (P:Program) (key:List GL) (st:Af T):Op->M (DV T)
 | .move x=> .sm (st.arg key x)
 | .assign x=> .sm (st.arg key x)
 | .pick c a b=>match st.arg key c with
   | some (.c (.k .bool p))=>yd key (ZF st c) p (st.ev a) (st.ev b)
   | _=> .no
 | .load t x=>match st.arg key x with
   | some v=>mZ P t key st v
   | none=> .no
 | .binOp op t x y _=>match st.arg key x,st.arg key y with
   | some u,some v=>AeW P op t key (BL x||BL y) (yf y) (yg y) u v
   | _,_=> .no
 | .unOp op _ x=>match st.arg key x with
   | some v=>dun op v
   | none=> .no
 | .convert src dst x=>match st.arg key x with
   | some v=>yk P src dst v
   | none=> .no
 | .slice t x lo hi none=>match st.arg key x,AbC st key lo,AbC st key hi with
   | some v,some l,some h=>AeX P t key v l h
   | _,_,_=> .no
 | .fieldAddr s x f=>match st.arg key x with
   | some v=>yl P s f v
   | none=> .no
 | .field t x f=>match st.arg key x with
   | some v=>qW P t f v
   | none=> .no
 | .indexAddr t x i=>match st.arg key x,st.arg key i with
   | some u,some v=>AeY P t key st u v
   | _,_=> .no
 | .index t x i=>match st.arg key x,st.arg key i with
   | some u,some v=>ym P t key u v
   | _,_=> .no
 | .extract x i=>match st.arg key x with
   | some v=>AeZ i v
   | none=> .no
 | .nilCheck x=>match st.arg key x with
   | some v=>yn v
   | none=> .no
 | .build t ps=>qZ P t key st ps.toList
 | .makeFunc (.func f) ⟨[]⟩ aiO=>match I7 st key aiO.toList with
   | some vs=>match gc vs with
     | some cs=> .ret (.c (.clo false f cs))
     | none=> .no
   | none=> .no
 | .makeFunc (.func f) ⟨x::xs⟩ ⟨[]⟩=>match I7 st key (x::xs)with
   | some vs=>match gc vs with
     | some cs=> .ret (.c (.clo true f cs))
     | none=> .no
   | none=> .no
 | .call c=>match c.callee with
   | .builtin b=>match b,c.args.toList,c.argTypes.toList with
     | .len,[x],[t]=>match st.arg key x with
       | some v=>Ae0 P t st v
       | none=> .no
     | .min,xs,_=>match I7 st key xs with
       | some vs=>match ZH vs with
         | some (k,x,ys)=> .ret (AdY k x ys)
         | none=> .no
       | none=> .no
     | .max,xs,_=>match I7 st key xs with
       | some vs=>match ZH vs with
         | some (k,x,ys)=> .ret (AdZ k x ys)
         | none=> .no
       | none=> .no
     | _,_,_=> .no
   | _=> .no
 | _=> .no
end Go.PL
namespace Go.PL
open Go Go.RowKit
variable {T:Bo}
section
variable {H:As T} {P:Program} {st:Af T} {key:List GL}
theorem Ae1 {op:UnOp} {x:DV T} {g:Prop} {nx:Nat}:Yl (dun op x) (fun v=>g->v.ok H nx/\(unV op x.toV).1/\(unV op x.toV).2=v.toV):=by
 unfold dun;split
 ·split
  ·exact Yl.ret fun _=>⟨by simp only [DV.ok,DC.ok],trivial,rfl⟩
  ·exact Yl.ret fun _=>⟨by simp only [DV.ok,DC.ok],trivial,rfl⟩
  ·exact Yl.no
 ·split
  ·exact Yl.ret fun _=>⟨by simp only [DV.ok,DC.ok],trivial,rfl⟩
  ·exact Yl.no
 ·exact Yl.no
theorem yo {s d:TypeId} {x:DV T} {g:Prop} {nx:Nat} {z:St}:Yl (yk P s d x) (fun v=>g->v.ok H nx/\(K4 P s d z x.toV).1/\(K4 P s d z x.toV).2=v.toV):=by
 unfold yk;split
 ·split
  ·rename_i k hk;refine Yl.Tf fun hb=>Yl.ret fun _=>⟨by simp only [DV.ok,DC.ok],?_⟩;simp_all [DV.toV,DC.toC,Bm,K4]
  ·exact Yl.no
 ·refine Yl.Tf fun hb=>Yl.ret fun _=>⟨by simp only [DV.ok,DC.ok],?_⟩;simp only [and_eq_true]at hb;exact⟨hb,rfl⟩
 ·exact Yl.no
theorem U9 (hw:AH H st) (hk:Fs H st.nx key) {x:Option Operand} {o:Option Int} (h:AbC st key x=some o) (hc:Be key=true):
 (C5 st.toSt (Be key) x).1/\((o=none/\(C5 st.toSt (Be key) x).2=none)\/ ∃ k n,o=some n/\(C5 st.toSt (Be key) x).2=some (.c (.int k n))):=by
 unfold AbC at h;split at h
 ·injection h with h;subst h;exact⟨trivial, .inl ⟨rfl,rfl⟩⟩
 ·split at h
  ·rename_i y k n hy;injection h with h;subst h;obtain⟨_,a,b⟩:=Af.afh hw hk hy hc;exact⟨a, .inr ⟨k,n,rfl,by simp only [C5,b];rfl⟩⟩
  ·cases h
theorem tP {len:Nat} {lo hi:Option Int} {a b:Option V} (ha:(lo=none/\a=none)\/ ∃ k n,lo=some n/\a=some (.c (.int k n))) (hb:(hi=none/\b=none)\/ ∃ k n,hi=some n/\b=some (.c (.int k n))):
 df len a b=some (lo.getD 0,hi.getD len):=by
 rcases ha with ⟨rfl,rfl⟩ | ⟨k,n,rfl,rfl⟩<;>rcases hb with ⟨rfl,rfl⟩ | ⟨k',n',rfl,rfl⟩<;>rfl
theorem yp {s:List UInt8} {lo hi:Option Int}:Yl (AdV (T:=T) key s lo hi) (fun v=>Be key=true-> ∃ r,Zn s (lo.getD 0) (hi.getD s.length)=some r/\v= .c (.k .str r)):=
 Yl.opt fun r hr=>Yl.ret fun hc=>⟨r,SH hr hc,rfl⟩
theorem yq {E:Nat} {l:List (T.den E)} {lo hi:Option Int}:Yl (AdW key E l lo hi) (fun v=>Be key=true-> ∃ r,qR l (lo.getD 0) (hi.getD l.length)=some r/\v= .c (.k (.l_ E) r)):=
 Yl.opt fun r hr=>Yl.ret fun hc=>⟨r,SH hr hc,rfl⟩
theorem AbD {t:TypeId} {x:DV T} {lo hi:Option Int} {a b:Option V} (ha:Be key=true->(lo=none/\a=none)\/ ∃ k n,lo=some n/\a=some (.c (.int k n))) (hb:Be key=true->(hi=none/\b=none)\/ ∃ k n,hi=some n/\b=some (.c (.int k n))) {nx:Nat}:
 Yl (AeX P t key x lo hi) (fun v=>Be key=true->v.ok H nx/\(Hi P t x.toV a b).1/\(Hi P t x.toV a b).2=v.toV):=by
 unfold AeX;split
 ·rename_i s;refine Yl.Tf fun hs=>yp.mono fun v hv hc=>?_;obtain⟨r,h1,rfl⟩:=hv hc;have hB:=tP (len:=List.length (α:=UInt8) s) (ha hc) (hb hc);refine⟨by simp only [DV.ok,DC.ok],?_⟩;simp only [DV.toV,DC.toC,Bm,Hi];grind [AeP,AeQ]
 ·rename_i E l;split
  ·rename_i e n abq;refine Yl.Tf fun hs=>yq.mono fun v hv hc=>?_;obtain⟨r,h1,rfl⟩:=hv hc;have hn:n=T.sz E:=(by simp_all);subst hn;have hB:=tP (len:=List.length (α:=T.den E) l) (ha hc) (hb hc);refine⟨by simp only [DV.ok,DC.ok],?_⟩;simp only [DV.toV,DC.toC,Bm,Hi,abq];grind [xW,amS,AQ,Ajh]
  ·exact Yl.no
 ·exact Yl.no
theorem yr {s:TypeId} {f:Nat} {x:DV T} {g:Prop} {nx:Nat} (hx:g->x.ok H nx):Yl (yl P s f x) (fun v=>g->v.ok H nx/\(B2 P s f x.toV).1/\(B2 P s f x.toV).2=v.toV):=by
 unfold yl;split
 ·rename_i o ag n hf;refine Yl.Tf fun hb=>?_;have hb':0<n:=by simp_all
  split
  ·refine Yl.ret fun _=>⟨by simp only [DV.ok,DC.ok],?_⟩;simp_all [DV.toV,DC.toC,B2]
  ·simp_all [Yl.ret,DV.ok,DC.ok,DV.toV,DC.toC,B2,add_assoc]
  ·refine Yl.ret fun hg=>⟨by simp only [DV.ok,DC.ok],?_⟩;simp_all [DV.toV,DC.toC,B2,add_assoc]
  ·refine Yl.ret fun hg=>⟨by simp only [DV.ok,DC.ok],?_⟩;simp_all [DV.toV,DC.toC,B2,add_assoc]
  ·exact Yl.no
 ·exact Yl.no
theorem vR {t:TypeId} {f:Nat} {x:DV T} {g:Prop} {nx:Nat} (hx:g->x.ok H nx):Yl (qW P t f x) (fun v=>g->v.ok H nx/\(JS P t f x.toV).1/\(JS P t f x.toV).2=v.toV):=by
 unfold qW;split
 ·split
  ·rename_i cs o ag n hf;refine Yl.Tf fun hb=>Yl.ret fun hg=>⟨(by grind [Il,DV.ok]),?_⟩;obtain⟨h1,h2⟩:=CR hb;simp_all [DV.toV,JS,Hq,AM]
  ·exact Yl.no
 ·exact Yl.no
theorem SK {E:Nat} {l:List (T.den E)} {i:Int} {f:T.den E->DV T}:Yl (m8 key E l i f) (fun v=>Be key=true-> ∃ x,idx l i=some x/\v=f x):=
 Yl.opt fun r hr=>Yl.ret fun hc=>⟨r,SH hr hc,rfl⟩
theorem AbE {t:TypeId} {x y:DV T} {nx:Nat}:Yl (AeY P t key st x y) (fun v=>Be key=true->v.ok H nx/\(Ch P t st.toSt x.toV y.toV).1/\(Ch P t st.toSt x.toV y.toV).2=v.toV):=by
 unfold AeY;split
 ·rename_i k i;split
  ·rename_i E l;split
   ·rename_i e n hs;refine Yl.Tf fun hn=>SK.mono fun v hv hc=>?_;have hn:n=T.sz E:=(by simp_all);subst hn;obtain⟨x,h1,rfl⟩:=hv hc;refine⟨by grind [DV.ok,DC.ok],?_⟩;simp only [DV.toV,DC.toC,Bm,Ch,hs,add_zero];exact⟨N7 h1,trivial⟩
   ·exact Yl.no
  ·rename_i id;split
   ·rename_i e n E l hs hb;refine SK.mono fun v hv hc=>?_;obtain⟨x,h1,rfl⟩:=hv hc;refine⟨by simp only [DV.ok,DC.ok],?_⟩;obtain⟨ee,e1,e2⟩:=ZC hb;simp only [DV.toV,DC.toC,Bm,Ch,hs,e1,e2,add_zero];exact⟨N7 h1,trivial⟩
   ·exact Yl.no
  ·rename_i id off;split
   ·rename_i m e n cs hs hb;split
    ·rename_i l hl;refine Yl.Tf fun hn=>SK.mono fun v hv hc=>?_;simp only [and_eq_true,beq_eq,ble_eq]at hn;obtain⟨hn,_⟩:=hn;subst hn;obtain⟨x,h1,rfl⟩:=hv hc;refine⟨by simp only [DV.ok,DC.ok],?_⟩;simp only [DV.toV,DC.toC,Bm,Ch,hs,add_zero];have:=N7 h1;rw [(En hl).1]at this;grind
    ·exact Yl.no
   ·exact Yl.no
  ·exact Yl.no
 ·exact Yl.no
theorem yt {s:List UInt8} {i:Int}:Yl (AdX (T:=T) key s i) (fun v=>Be key=true-> ∃ r,IS s i=some r/\v= .c (.k (.int .u8) r)):=
 Yl.opt fun r hr=>Yl.ret fun hc=>⟨r,SH hr hc,rfl⟩
theorem yu {t:TypeId} {x y:DV T} {nx:Nat}:Yl (ym P t key x y) (fun v=>Be key=true->v.ok H nx/\(IM P t x.toV y.toV).1/\(IM P t x.toV y.toV).2=v.toV):=by
 unfold ym;split
 ·rename_i k i;split
  ·rename_i s;refine Yl.Tf fun hs=>yt.mono fun v hv hc=>?_;obtain⟨r,h1,rfl⟩:=hv hc;grind [DV.ok,DC.ok,DV.toV,DC.toC,Bm,IM,AeN,AeO]
  ·rename_i cs;split
   ·rename_i m e n hs;split
    ·rename_i ag n' l ht hl;refine Yl.Tf fun hn=>SK.mono fun v hv hc=>?_;simp only [and_eq_true,beq_eq,blt_eq]at hn;obtain⟨hn,h0,hlen⟩:=hn;subst hn;obtain⟨x,h1,rfl⟩:=hv hc;obtain⟨hl1,r,hl2⟩:=En hl;have:=js (cs:=Ar cs) (pre:=[]) (post:=r) (base:=0) (e:=T.enc e) (N:=T.sz e) (o:=0) (n:=T.sz e) (ag:=ag) (v:=(C3 (T:=T) ag 0 (T.sz e) (jv e x)).toV) (off:=i.toNat*T.sz e)
      (by grind) rfl h1 (fun y=>AQ e y) (by omega) (by omega) (.inr h0) (by rw [Hq,Gz])
     grind [Il,M6,N7,DV.toV,DC.toC,Bm,IM]
    ·exact Yl.no
   ·exact Yl.no
  ·exact Yl.no
 ·exact Yl.no
theorem gf: ∀ (vs:List (DV T)) (i:Nat),(Bg vs).getD i .undef =(vs.getD i .u).toV
 | [],_=>by simp [Bg,DV.toV]
 | v::vs,0=>by simp [Bg]
 | v::vs,i+1=>by simpa [Bg] using gf vs i
theorem Im (vs:List (DV T)):(Bg vs).length =vs.length:=by simp [OV]
theorem AbF {i:Nat} {x:DV T} {g:Prop} {nx:Nat} (hx:g->x.ok H nx):Yl (AeZ i x) (fun v=>g->v.ok H nx/\(qq i x.toV).1/\(qq i x.toV).2=v.toV):=by
 unfold AeZ;split
 ·rename_i vs;refine Yl.Tf fun hb=>Yl.ret fun hg=>⟨?_,?_⟩
  ·grind [DV.ok,OW]
  ·simp only [DV.toV,qq,gf,Im];simp_all
 ·exact Yl.no
theorem yv {x:DV T} {g:Prop} {nx:Nat} (hx:g->x.ok H nx):Yl (yn x) (fun v=>g->v.ok H nx/\(dg x.toV).1/\(dg x.toV).2=v.toV):=by
 unfold yn;split
 ·exact Yl.ret fun hg=>⟨hx hg,trivial,rfl⟩
 ·exact Yl.ret fun hg=>⟨hx hg,trivial,rfl⟩
 ·grind [Yl.ret,DV.toV,DC.toC,dg]
 ·grind [Yl.ret,DV.toV,DC.toC,dg]
 ·grind [Yl.ret,DV.toV,DC.toC,dg]
 ·rename_i b f cs;refine Yl.ret fun hg=>⟨hx hg,?_⟩;cases b<;>simp only [DV.toV,DC.toC,dg]<;>exact(by grind)
 ·exact Yl.no
theorem AbG {t:TypeId} {x:DV T} {nx:Nat} {g:Prop}:Yl (Ae0 P t st x) (fun v=>g->v.ok H nx/\(Q9 P t st.toSt x.toV).1/\(Q9 P t st.toSt x.toV).2=v.toV):=by
 unfold Ae0;split
 ·exact Yl.Tf fun hb=>Yl.ret fun _=>⟨by simp only [DV.ok,DC.ok],hb,rfl⟩
 ·exact Yl.Tf fun hb=>Yl.ret fun _=>⟨by simp only [DV.ok,DC.ok],hb,rfl⟩
 ·split
  ·rename_i id E l hr;refine Yl.Tf fun hb=>Yl.ret fun _=>⟨by simp only [DV.ok,DC.ok],?_⟩;obtain⟨ee,e1,e2⟩:=ZC hr;simp_all [DV.toV,DC.toC,Bm,Q9]
  ·exact Yl.no
 ·exact Yl.Tf fun hb=>Yl.ret fun _=>⟨by simp only [DV.ok,DC.ok],hb,rfl⟩
 ·split
  ·rename_i k e n ha;refine Yl.ret fun _=>⟨by simp only [DV.ok,DC.ok],?_⟩;simp_all [DV.toV,DC.toC,Bm,Q9]
  ·exact Yl.no
 ·split
  ·rename_i k e n ha;refine Yl.ret fun _=>⟨by simp only [DV.ok,DC.ok],?_⟩;simp_all [DV.toV,DC.toC,Bm,Q9]
  ·exact Yl.no
 ·exact Yl.no
theorem Dg (hw:AH H st) (hk:Fs H st.nx key) (hc:Be key=true): ∀ {xs:List Operand} {vs:List (DV T)},I7 st key xs=some vs->
 CX H st.nx vs/\(st.toSt.args (Be key) xs).1/\(st.toSt.args (Be key) xs).2=Bg vs
 | [],vs,h=>by grind [I7,CX,St.args,Bg]
 | x::xs,vs,h=>by
   unfold I7 at h;split at h
   ·rename_i v vs' h1 h2;injection h with h;subst h;obtain⟨a,b,c⟩:=Af.afh hw hk h1 hc;obtain⟨a',b',c'⟩:=Dg hw hk hc h2;simp_all [CX,St.args,Bg]
   ·cases h
theorem Rr: ∀ {vs:List (DV T)} {r:IntKind×Int×List Int},ZH vs=some r->LI (Bg vs)=some r
 | [],_,h=>by simp [ZH]at h
 | [v],r,h=>by
   unfold ZH at h;split at h
   ·rename_i k x he;injection he with he;subst he;injection h with h;subst h;rfl
   all_goals grind
 | v::v'::vs,r,h=>by
   unfold ZH at h;split at h
   ·grind
   ·rename_i k x vs' _ he;injection he with h1 h2;subst h1 h2;split at h
    ·rename_i k' y ys h3;injection h with h;subst h;have:=Rr h3;simp_all [Bg,DV.toV,DC.toC,Bm,LI]
    ·cases h
   ·cases h
theorem m9 {v:Value} {c:DC T} (h:qY v=some c):Y2 v=some c.toC/\c.ok:=by
 unfold qY at h;split at h
 ·injection h with h;subst h;exact⟨rfl,by simp only [DC.ok]⟩
 ·injection h with h;subst h;exact⟨rfl,by simp only [DC.ok]⟩
 ·injection h with h;subst h;exact⟨rfl,by simp only [DC.ok]⟩
 grind [DC.toC,DC.ok]
theorem SM: ∀ {vs:List Value} {cs:List (DC T)},SJ vs=some cs->Jd vs=some (Ar cs)/\Ce cs
 | [],cs,h=>by grind [SJ,Jd,Ar,Ce]
 | v::vs,cs,h=>by
   unfold SJ at h;split at h
   ·rename_i c cs' h1 h2;injection h with h;subst h;obtain⟨a,b⟩:=m9 h1;obtain⟨a',b'⟩:=SM h2;simp [Jd,a,a',Ar,Ce,b,b']
   ·cases h
theorem OZ {t:TypeId} {cs:List (DC T)} (h:ZI P t=some cs):Y3 P t=some (Ar cs)/\Ce cs:=by grind [ZI,Y3,SM]
theorem DV.adh {v:DV T} {cs:List (DC T)} (h:v.cells=some cs):v.toV.cells=some (Ar cs)/\(∀ {H:As T} {nx:Nat},v.ok H nx->Ce cs):=by unfold DV.cells at h;grind [DV.toV,V.cells,Ar,Ce,DV.ok]
def nc (l:List (Nat×DV T)):List (Nat×V):=l.map fun x=>(x.1,x.2.toV)
theorem Gb (hw:AH H st) (hk:Fs H st.nx key) (hc:Be key=true): ∀ {ps:List (Nat×Operand)} {vs:List (Nat×DV T)},Hs st key ps=some vs->
 (∀ x∈vs,x.2.ok H st.nx)/\(st.toSt.parts (Be key) ps).1/\(st.toSt.parts (Be key) ps).2=nc vs
 | [],vs,h=>by grind [Hs,St.parts,nc]
 | (i,x)::r,vs,h=>by
   unfold Hs at h;split at h
   ·rename_i v vs' h1 h2;injection h with h;subst h;obtain⟨a,b,c⟩:=Af.afh hw hk h1 hc;obtain⟨a',b',c'⟩:=Gb hw hk hc h2;simp only [St.parts,nc,c,c',map_cons];grind
   ·cases h
theorem Kk {place:Nat->Option (Nat×Nat)}: ∀ {vs:List (Nat×DV T)} {cells cs:List (DC T)},W3 place cells vs=some cs->
 JZ place (Ar cells) (nc vs)=some (Ar cs)/\ ∀ {H:As T} {nx:Nat},Ce cells->(∀ x∈vs,x.2.ok H nx)->Ce cs
 | [],cells,cs,h=>by simp [W3]at h;subst h;exact⟨rfl,fun hc _=>hc⟩
 | (i,v)::rest,cells,cs,h=>by
   unfold W3 at h;split at h
   ·rename_i off size ds h1 h2;split at h
    ·rename_i hb;simp only [and_eq_true,beq_eq,ble_eq]at hb;obtain⟨a,b⟩:=DV.adh h2;obtain⟨a',b'⟩:=Kk h;refine⟨?_,fun hc hv=>b' (C9 (U5 hc _) (C9 (b (hv (i,v) (by simp))) (U6 hc _))) (fun x hx=>hv x (by simp [hx]))⟩;simp only [nc,map_cons,JZ,h1,a];rw [if_pos (by rw [AM,AM];exact hb)];rw [<-a',CQ,CQ,Jz,Ga,List.append_assoc];rfl
    ·cases h
   ·cases h
theorem Rs: ∀ {vs:List (DV T)} {cs:List (DC T)},gc vs=some cs->jc (Bg vs)=some (Ar cs)/\ ∀ {H:As T} {nx:Nat},CX H nx vs->Ce cs
 | [],cs,h=>by grind [gc,Bg,jc,Ar,Ce]
 | v::vs,cs,h=>by
   unfold gc at h;split at h
   ·cases ‹_=([]:List (DV T))›
   ·rename_i x vs' he;injection he with h1 h2;subst h1 h2;split at h
    ·rename_i cs' hcs;injection h with h;subst h;obtain⟨a,b⟩:=Rs hcs;refine⟨by simp [Bg,DV.toV,jc,a,Ar],fun hv=>?_⟩;simp only [CX,DV.ok]at hv;simp only [Ce];exact⟨hv.1,b hv.2⟩
    ·cases h
   ·cases h
theorem vT (hw:AH H st) (hk:Fs H st.nx key) {t:TypeId} {ps:List (Nat×Operand)}:
 Yl (qZ P t key st ps) (fun v=>Be key=true->v.ok H st.nx/\(ON P st.toSt (Be key) t ps).1/\(ON P st.toSt (Be key) t ps).2=v.toV):=by
 unfold qZ;split
 ·rename_i z vs hz hp;split
  ·rename_i cs hf;refine Yl.Tf fun ho=>Yl.ret fun hc=>?_;obtain⟨a,b⟩:=OZ hz;obtain⟨p1,p2,p3⟩:=Gb hw hk hc hp;obtain⟨q1,q2⟩:=Kk hf;refine⟨by simp only [DV.ok];exact q2 b p1,?_⟩;simp_all [ON,DV.toV]
  ·exact Yl.no
 ·exact Yl.no
theorem yw {y:Operand} {v:DV T} (h:st.arg key y=some v):AdU (yf y) (yg y) v:=by
 intro k b hv;subst hv;have hc: ∀ (k':IntKind) (n:Int),y= .const (.int k' n)->b=n:=by grind [Af.arg,Af.ev,U4,WW]
 constructor
 ·intro h1;unfold yf at h1;grind
 ·intro h1;unfold yg at h1;grind
theorem Mg (hw:AH H st) (hk:Fs H st.nx key) (op:Op):Yl (Mf P key st op) (Rd H P st key op):=by
 have A: ∀ {x:Operand} {v:DV T},st.arg key x=some v->Be key=true->v.ok H st.nx/\(st.toSt.arg (Be key) x).1/\(st.toSt.arg (Be key) x).2=v.toV:=(by grind [Af.afh]);unfold Mf;split
 ·exact Yl.sm fun v hv hc=>A hv hc
 ·exact Yl.sm fun v hv hc=>A hv hc
 ·rename_i c a b;split
  ·rename_i p hp;refine(yi hw hk hp).mono fun v hv hc=>?_;grind [DV.toV,DC.toC,Bm,DZ,rd,M_]
  ·exact Yl.no
 ·rename_i t x;split
  ·rename_i v hx;refine(ZE hw (by grind)).mono fun r hr hc=>?_;grind [DZ,rd,M_]
  ·exact Yl.no
 ·rename_i op t x y ty;split
  ·rename_i u v hx hy;refine(AbB (H:=H) (st:=st) (yw hy)).mono fun r hr hc=>?_;obtain⟨q0,q1,q2⟩:=hr hc;obtain⟨_,k1,k2⟩:=A hx hc;obtain⟨_,k3,k4⟩:=A hy hc;refine⟨q0,?_⟩;have e:DZ P st.toSt (Be key) (.binOp op t x y ty)=((st.toSt.arg (Be key) x).1/\(st.toSt.arg (Be key) y).1/\(M1 P op t (BL x||BL y) (st.toSt.arg (Be key) x).2 (st.toSt.arg (Be key) y).2).1,(M1 P op t (BL x||BL y) (st.toSt.arg (Be key) x).2 (st.toSt.arg (Be key) y).2).2):=by
    simp only [DZ];unfold M1;split
    ·grind
    ·rename_i Tj;split
     ·grind
     ·rfl
   grind
  ·exact Yl.no
 ·rename_i op t x;split
  ·rename_i v hx;refine(Ae1 (H:=H) (g:=Be key=true) (nx:=st.nx)).mono fun r hr hc=>?_;grind [DZ,rd,M_]
  ·exact Yl.no
 ·rename_i s d x;split
  ·rename_i v hx;refine(yo (H:=H) (g:=Be key=true) (nx:=st.nx) (z:=st.toSt)).mono fun r hr hc=>?_;grind [DZ,rd,M_]
  ·exact Yl.no
 ·rename_i t x lo hi;split
  ·rename_i v l h hx hl hh;refine(AbD (H:=H) (nx:=st.nx) (a:=(C5 st.toSt (Be key) lo).2) (b:=(C5 st.toSt (Be key) hi).2) (fun hc=>(U9 hw hk hl hc).2) (fun hc=>(U9 hw hk hh hc).2)).mono fun r hr hc=>?_;grind [DZ,rd,M_,U9]
  ·exact Yl.no
 ·rename_i s x f;split
  ·rename_i v hx;refine(yr (H:=H) (g:=Be key=true) (nx:=st.nx) (by grind)).mono fun r hr hc=>?_;grind [DZ,rd,M_]
  ·exact Yl.no
 ·rename_i t x f;split
  ·rename_i v hx;refine(vR (H:=H) (g:=Be key=true) (nx:=st.nx) (by grind)).mono fun r hr hc=>?_;grind [DZ,rd,M_]
  ·exact Yl.no
 ·rename_i t x y;split
  ·rename_i u v hx hy;refine(AbE (H:=H) (nx:=st.nx)).mono fun r hr hc=>?_;grind [DZ,rd,M_]
  ·exact Yl.no
 ·rename_i t x y;split
  ·rename_i u v hx hy;refine(yu (H:=H) (nx:=st.nx)).mono fun r hr hc=>?_;grind [DZ,rd,M_]
  ·exact Yl.no
 ·rename_i x i;split
  ·rename_i v hx;refine(AbF (H:=H) (g:=Be key=true) (nx:=st.nx) (by grind)).mono fun r hr hc=>?_;grind [DZ,rd,M_]
  ·exact Yl.no
 ·rename_i x;split
  ·rename_i v hx;refine(yv (H:=H) (g:=Be key=true) (nx:=st.nx) (by grind)).mono fun r hr hc=>?_;grind [DZ,rd,M_]
  ·exact Yl.no
 ·exact vT hw hk
 ·rename_i f aiO;split
  ·rename_i vs hvs;split
   ·rename_i cs hcs;refine Yl.ret fun hc=>?_;obtain⟨a,b,c⟩:=Dg hw hk hc hvs;obtain⟨d,e⟩:=Rs hcs;refine⟨by grind [DV.ok,DC.ok],?_⟩;simp_all [DZ,DV.toV,DC.toC]
   ·exact Yl.no
  ·exact Yl.no
 ·rename_i f x xs;split
  ·rename_i vs hvs;split
   ·rename_i cs hcs;refine Yl.ret fun hc=>?_;obtain⟨a,b,c⟩:=Dg hw hk hc hvs;obtain⟨d,e⟩:=Rs hcs;refine⟨by grind [DV.ok,DC.ok],?_⟩;simp_all [DZ,DV.toV,DC.toC]
   ·exact Yl.no
  ·exact Yl.no
 ·rename_i c;split
  ·rename_i b hb;split
   ·rename_i x t h1 h2;split
    ·rename_i v hx;refine(AbG (H:=H) (g:=Be key=true) (nx:=st.nx)).mono fun r hr hc=>?_;grind [DZ,rd,Rc,M_]
    ·exact Yl.no
   ·split
    ·rename_i vs hvs;split
     ·rename_i k x ys hi;refine Yl.ret fun hc=>?_;obtain⟨a,b',c'⟩:=Dg hw hk hc hvs;refine⟨by simp only [AdY,DV.ok,DC.ok],?_⟩;simp only [DZ,rd,hb,Rc,c',qm,Rr hi];exact⟨⟨b',trivial⟩,rfl⟩
     ·exact Yl.no
    ·exact Yl.no
   ·split
    ·rename_i vs hvs;split
     ·rename_i k x ys hi;refine Yl.ret fun hc=>?_;obtain⟨a,b',c'⟩:=Dg hw hk hc hvs;refine⟨by simp only [AdZ,DV.ok,DC.ok],?_⟩;simp only [DZ,rd,hb,Rc,c',qn,Rr hi];exact⟨⟨b',trivial⟩,rfl⟩
     ·exact Yl.no
    ·exact Yl.no
   ·exact Yl.no
  ·exact Yl.no
 ·exact Yl.no
end
end Go.PL
namespace Go.PL
open Go Go.RowKit
variable {T:Bo}
def Af.put (st:Af T) (d:Option Nat) (v:DV T):Af T:=match d with
 | some d=>{st with tm:=(d,st.nx,v)::st.tm,nx:=st.nx+1}
 | none=>st
theorem ne (m d t:Nat) (v:DV T) (tm:Tm T):AD m ((d,t,v)::tm)=(AD m tm).set d v.toV:=by
 apply ext_getElem?;intro i;unfold AD;rw [List.getElem?_set];simp only [getElem?_map,List.length_map,List.length_range];by_cases hi:i<m
 ·rw [List.getElem?_range hi];simp only [Option.map_some,lk];by_cases hd:d=i
  ·simp_all
  grind [Nat.eq_of_beq_eq_true]
 grind
theorem Af.h_ (st:Af T) (d:Option Nat) (v:DV T):(st.put d v).toSt =st.toSt.put d v.toV:=by cases d<;>grind [Af.put,Af.toSt,St.put,ne]
def As.agv (H:As T) (t:Nat) (v:DV T):As T:=⟨fun i=>if i=t then v else H.v i,H.e⟩
def As.Tl (H:As T) (t:Nat) (e:DE T):As T:=⟨H.v,fun i=>if i=t then e else H.e i⟩
theorem C6.agv (H:As T) (t:Nat) (v:DV T):C6 t H (H.agv t v):=fun i hi=>⟨by simp only [As.agv];grind,rfl⟩
theorem C6.Tl (H:As T) (t:Nat) (e:DE T):C6 t H (H.Tl t e):=fun i hi=>⟨rfl,by simp only [As.Tl];grind⟩
structure Nx (H:As T) (st:Af T) (H':As T) (an:Af T):Prop where
 ext:C6 st.nx H H'
 le:st.nx<=an.nx
 ok:AH H' an
theorem Nx.refl {H:As T} {st:Af T} (h:AH H st):Nx H st H st:=⟨C6.refl _ _,le_refl _,h⟩
theorem Nx.trans {H H' H'':As T} {a b c:Af T} (h:Nx H a H' b) (k:Nx H' b H'' c):Nx H a H'' c:=⟨h.ext.trans k.ext h.le,Nat.le_trans h.le k.le,k.ok⟩
theorem Fu {H H':As T} {n m:Nat} (he:C6 n H H') (hnm:n<=m) {l:List (DE T)} (h: ∀ e∈l,e.tag<n/\H.e e.tag=e/\e.x.ok): ∀ e∈l,e.tag<m/\H'.e e.tag=e/\e.x.ok:=fun e hm=>by obtain⟨a,b,c⟩:=h e hm;exact⟨(by grind),by rw [(he e.tag a).2];exact b,c⟩
theorem Af.aao {H:As T} {st:Af T} (h:AH H st) (d:Option Nat) {v:DV T} (hv:v.ok H st.nx): ∃ H',Nx H st H' (st.put d v):=by
 cases d with
 | none=>exact⟨H,Nx.refl h⟩
 | some d=>
   have he:=C6.agv H st.nx v;refine⟨H.agv st.nx v,he,by simp [Af.put],?_,?_,?_,h.nd⟩
   ·intro s t w hm;simp only [Af.put]at hm ⊢;rcases mem_cons.1 hm with hm | hm
    ·injection hm with h1 hm;injection hm with h2 h3;subst h1 h2 h3;exact⟨Nat.lt_succ_self _,by simp [As.agv],DV.ac6 he (le_succ _) hv⟩
    ·exact BY he (le_succ _) h.tm s t w hm
   ·intro f hf;exact BY he (le_succ _) (h.gh f hf)
   ·exact Fu he (le_succ _) h.so
def QD (p:DV T->Bool) (f:DV T->DV T):Nat->Tm T->Tm T
 | _,[]=>[]
 | n,(s,t,v)::r=>match p v with
   | true=>(s,n,f v)::QD p f (n+1) r
   | false=>(s,t,v)::QD p f (n+1) r
def Rt (p:DV T->Bool) (f:DV T->DV T):Nat->List (Nat×Tm T)->List (Nat×Tm T)
 | _,[]=>[]
 | n,(m,tm)::r=>(m,QD p f n tm)::Rt p f (n+tm.length) r
def N8:List (Nat×Tm T)->Nat
 | []=>0
 | (_,tm)::r=>tm.length+N8 r
def Ru (q:DX T->Bool) (g:DX T->DX T):Nat->List (DE T)->List (DE T)
 | _,[]=>[]
 | n,e::r=>match q e.x with
   | true=>⟨e.id,n,g e.x⟩::Ru q g (n+1) r
   | false=>e::Ru q g (n+1) r
def Af.aeo (p:DV T->Bool) (f:DV T->DV T) (q:DX T->Bool) (g:DX T->DX T) (st:Af T):Af T:=
 {st with tm:=QD p f st.nx st.tm,gh:=Rt p f (st.nx+st.tm.length) st.gh,so:=Ru q g (st.nx+st.tm.length+N8 st.gh) st.so,nx:=st.nx+st.tm.length+N8 st.gh+st.so.length}
section
variable {p:DV T->Bool} {f:DV T->DV T} {q:DX T->Bool} {g:DX T->DX T}
theorem Yy (hf: ∀ {H:As T} {n:Nat} {v:DV T},v.ok H n->(f v).ok H n): ∀ (tm:Tm T) (n:Nat) (H:As T),Ro H n tm-> ∃ H',C6 n H H'/\Ro H' (n+tm.length) (QD p f n tm)
 | [],n,H,_=>⟨H,C6.refl _ _,fun _ _ _ h=>by cases h⟩
 | (s,t,v)::r,n,H,h=>by
   obtain⟨a,b,c⟩:=h s t v (by simp);have hr:Ro H n r:=fun s' t' v' hm=>h s' t' v' (by simp [hm]);unfold QD;split
   ·have he:=C6.agv H n (f v);obtain⟨H',h1,h2⟩:=Yy hf r (n+1) (H.agv n (f v)) (BY he (le_succ _) hr);refine⟨H',he.trans h1 (le_succ _),fun s' t' v' hm=>?_⟩;rw [show n+((s,t,v)::r).length =n+1+r.length by simp;omega];rcases mem_cons.1 hm with hm | hm
    ·injection hm with e1 hm;injection hm with e2 e3;subst e1 e2 e3;refine⟨by omega,?_,DV.ac6 (he.trans h1 (le_succ _)) (by omega) (hf c)⟩;rw [(h1 t' (by omega)).1];simp [As.agv]
    ·exact h2 s' t' v' hm
   ·obtain⟨H',h1,h2⟩:=Yy hf r (n+1) H (BY (C6.refl _ _) (le_succ _) hr);have h1':C6 n H H':=fun i hi=>h1 i (by omega);refine⟨H',h1',fun s' t' v' hm=>?_⟩;rw [show n+((s,t,v)::r).length =n+1+r.length by simp;omega];rcases mem_cons.1 hm with hm | hm
    ·injection hm with e1 hm;injection hm with e2 e3;subst e1 e2 e3;refine⟨by omega,?_,DV.ac6 h1' (by omega) c⟩;rw [(h1' t' a).1];exact b
    ·exact h2 s' t' v' hm
theorem tQ (hf: ∀ {H:As T} {n:Nat} {v:DV T},v.ok H n->(f v).ok H n): ∀ (l:List (Nat×Tm T)) (n:Nat) (H:As T),(∀ x∈l,Ro H n x.2)-> ∃ H',C6 n H H'/\ ∀ x∈Rt p f n l,Ro H' (n+N8 l) x.2
 | [],n,H,_=>⟨H,C6.refl _ _,fun _ h=>by cases h⟩
 | (m,tm)::r,n,H,h=>by
   obtain⟨H1,a,b⟩:=Yy (p:=p) hf tm n H (h (m,tm) (by simp));obtain⟨H2,c,d⟩:=tQ hf r (n+tm.length) H1 (by grind [BY]);refine⟨H2,a.trans c (by omega),fun x hx=>?_⟩;have e:n+N8 ((m,tm)::r)=n+tm.length+N8 r:=by simp [N8];omega
   rw [e];rcases mem_cons.1 hx with rfl | hx
   all_goals grind [BY]
theorem jw (hg: ∀ {x:DX T},x.ok->(g x).ok): ∀ (l:List (DE T)) (n:Nat) (H:As T),(∀ e∈l,e.tag<n/\H.e e.tag=e/\e.x.ok)-> ∃ H',C6 n H H'/\ ∀ e∈Ru q g n l,e.tag<n+l.length/\H'.e e.tag=e/\e.x.ok
 | [],n,H,_=>⟨H,C6.refl _ _,fun _ h=>by cases h⟩
 | e::r,n,H,h=>by
   obtain⟨a,b,c⟩:=h e (by simp);have hr: ∀ e∈r,e.tag<n/\H.e e.tag=e/\e.x.ok:=(by grind);unfold Ru;split
   ·have he:=C6.Tl H n ⟨e.id,n,g e.x⟩;obtain⟨H',h1,h2⟩:=jw hg r (n+1) (H.Tl n ⟨e.id,n,g e.x⟩) (Fu he (le_succ _) hr);refine⟨H',he.trans h1 (le_succ _),fun x hm=>?_⟩;rw [show n+(e::r).length =n+1+r.length by simp;omega];rcases mem_cons.1 hm with rfl | hm
    ·refine⟨by grind,?_,hg c⟩;simp only;rw [(h1 n (by omega)).2];simp [As.Tl]
    grind
   ·obtain⟨H',h1,h2⟩:=jw hg r (n+1) H (by grind);have h1':C6 n H H':=fun i hi=>h1 i (by omega);refine⟨H',h1',fun x hm=>?_⟩;rw [show n+(e::r).length =n+1+r.length by simp;omega];rcases mem_cons.1 hm with rfl | hm
    ·exact⟨by omega,by rw [(h1' x.tag a).2];exact b,c⟩
    grind
theorem nf: ∀ (l:List (DE T)) (n:Nat),(Ru q g n l).map DE.id=l.map DE.id
 | [],_=>rfl
 | e::r,n=>by unfold Ru;split<;>simp [nf r]
theorem Af.aeI {H:As T} {st:Af T} (h:AH H st) (hf: ∀ {H:As T} {n:Nat} {v:DV T},v.ok H n->(f v).ok H n) (hg: ∀ {x:DX T},x.ok->(g x).ok): ∃ H',Nx H st H' (st.aeo p f q g):=by
 obtain⟨H1,a1,b1⟩:=Yy (p:=p) hf st.tm st.nx H h.tm;obtain⟨H2,a2,b2⟩:=tQ (p:=p) hf st.gh (st.nx+st.tm.length) H1 (fun x hx=>BY a1 (by omega) (h.gh x hx));obtain⟨H3,a3,b3⟩:=jw (q:=q) hg st.so (st.nx+st.tm.length+N8 st.gh) H2 (Fu (a1.trans a2 (by omega)) (by omega) h.so);have a23:C6 (st.nx+st.tm.length) H1 H3:=a2.trans a3 (by omega);refine⟨H3,a1.trans a23 (by omega),by grind [Af.aeo],?_,?_,b3,by simp only [Af.aeo,nf];exact h.nd⟩
 all_goals grind [BY,Af.aeo]
theorem M7 (hu:p .u =false) (i:Nat): ∀ (tm:Tm T) (n:Nat),lk (QD p f n tm) i=(match p (lk tm i)with | true=>f (lk tm i) | false=>lk tm i)
 | [],n=>by simp [QD,lk,hu]
 | (s,t,v)::r,n=>by
   unfold QD;split
   ·rename_i hp;simp only [lk];cases Nat.beq s i with
    | true=>simp only [hp]
    | false=>exact M7 hu i r (n+1)
   ·rename_i hp;simp only [lk];cases Nat.beq s i with
    | true=>simp only [hp]
    | false=>exact M7 hu i r (n+1)
theorem ng {F:V->V} (hu:p .u =false) {tm:Tm T} (h1: ∀ i,p (lk tm i)=true->(f (lk tm i)).toV =F (lk tm i).toV) (h2: ∀ i,p (lk tm i)=false->F (lk tm i).toV =(lk tm i).toV) (m n:Nat):AD m (QD p f n tm)=(AD m tm).map F:=by unfold AD;rw [map_map];apply List.map_congr_left;intro i _;simp only [Function.comp,M7 hu];grind
theorem nh {F:V->V} (hu:p .u =false): ∀ {l:List (Nat×Tm T)} (n:Nat),(∀ x∈l, ∀ i,(p (lk x.2 i)=true->(f (lk x.2 i)).toV =F (lk x.2 i).toV)/\(p (lk x.2 i)=false->F (lk x.2 i).toV =(lk x.2 i).toV))->
 (Rt p f n l).flatMap (fun f=>AD f.1 f.2)=(l.flatMap fun f=>AD f.1 f.2).map F
 | [],_,_=>rfl
 | (m,tm)::r,n,h=>by simp only [Rt,flatMap_cons,map_append];rw [nh hu (n+tm.length) (fun x hx=>h x (by simp [hx])),ng hu (fun i=>(h (m,tm) (by simp) i).1) (fun i=>(h (m,tm) (by simp) i).2)]
theorem O0 {F:Aw->Aw}: ∀ {l:List (DE T)} (n:Nat),(∀ e∈l,(q e.x=true-> ∀ t,(⟨e.id,t,g e.x⟩:DE T).toE =F e.toE)/\(q e.x=false->F e.toE=e.toE))->(Ru q g n l).map DE.toE=(l.map DE.toE).map F
 | [],_,_=>rfl
 | e::r,n,h=>by
   have ih:=O0 (n+1) (fun x hx=>h x (by simp [hx])) (l:=r);unfold Ru;split
   ·rename_i hq;simp only [map_cons,ih,(h e (by simp)).1 hq]
   ·rename_i hq;simp only [map_cons,ih,(h e (by simp)).2 hq]
end
theorem CT (a b:Ah):Bf a b=(a==b):=by grind [AN]
def AbH (id:Ah):C->Bool
 | .e_ i=>Bf i id
 | .ptr i _=>Bf i id
 | .bsl i _ _=>Bf i id
 | .rsl i _ _ _=>Bf i id
 | .bld i _=>Bf i id
 | .agA i=>Bf i id
 | .clo _ cs=>BP id cs
 | .bmv _ cs=>BP id cs
 | _=>false
theorem AbI (id:Ah) (c:C):AbH id c=c.p_ id:=by cases c<;>simp only [AbH,C.p_,CT]
mutual
def DC.p_ (id:Ah):DC T->Bool
 | .c x=>AbH id x
 | .rp i _ _ _=>Bf i id
 | .ap i _ _ _ _ _=>Bf i id
 | .bs i _ _ _=>Bf i id
 | .clo _ _ cs=>SN id cs
 | .k _ _=>false
 | .ip .. =>false
def SN (id:Ah):List (DC T)->Bool
 | []=>false
 | c::cs=>match c.p_ id with
   | true=>true
   | false=>SN id cs
end
mutual
theorem DC.ahW (id:Ah): ∀ c:DC T,c.p_ id=c.toC.p_ id
 | .c x=>by simp only [DC.p_,DC.toC,AbI]
 | .rp .. =>by simp only [DC.p_,DC.toC,C.p_,CT]
 | .ap .. =>by simp only [DC.p_,DC.toC,C.p_,CT]
 | .bs .. =>by simp only [DC.p_,DC.toC,C.p_,CT]
 | .clo true _ cs=>by simp only [DC.p_,DC.toC,C.p_,O1 id cs]
 | .clo false _ cs=>by simp only [DC.p_,DC.toC,C.p_,O1 id cs]
 | .k kd x=>by cases kd<;>simp only [DC.p_,DC.toC,Bm,C.p_]
 | .ip .. =>by simp only [DC.p_,DC.toC,C.p_]
theorem O1 (id:Ah): ∀ cs:List (DC T),SN id cs=BP id (Ar cs)
 | []=>by simp only [SN,Ar,BP]
 | c::cs=>by simp only [SN,Ar,BP,DC.ahW id c,O1 id cs];cases c.toC.p_ id<;>rfl
end
mutual
def DV.p_ (id:Ah):DV T->Bool
 | .c x=>x.p_ id
 | .agg cs=>SN id cs
 | .tup vs=>gg id vs
 | .g _ v=>v.p_ id
 | .u =>false
def gg (id:Ah):List (DV T)->Bool
 | []=>false
 | v::vs=>match v.p_ id with
   | true=>true
   | false=>gg id vs
end
mutual
theorem DV.ahV (id:Ah): ∀ v:DV T,v.p_ id=false->v.toV.p_ id=false
 | .c x,h=>by grind [DV.p_,DV.toV,V.p_,DC.ahW]
 | .agg cs,h=>by grind [DV.p_,DV.toV,V.p_,O1]
 | .tup vs,h=>by simp only [DV.p_]at h;simp only [DV.toV,V.p_];exact ni id vs h
 | .g k v,h=>by simp only [DV.p_]at h;simp only [DV.toV,V.p_,DV.ahV id v h,Bool.false_and]
 | .u,_=>by simp only [DV.toV,V.p_]
theorem ni (id:Ah): ∀ vs:List (DV T),gg id vs=false->LG id (Bg vs)=false
 | [],_=>by simp only [Bg,LG]
 | v::vs,h=>by
   simp only [gg]at h;split at h
   ·cases h
   ·rename_i hv;simp only [Bg,LG,DV.ahV id v hv,ni id vs h,Bool.or_self]
end
def ZJ (id:Ah) (c:DC T):DC T:=match c.p_ id with
 | true=> .c .any
 | false=>c
def DX.p_ (id:Ah):DX T->Bool
 | .box cs=>SN id cs
 | .row _ _=>false
 | .deep .. =>false
def O2 (id:Ah):DX T->DX T
 | .box cs=> .box (cs.map (ZJ id))
 | x=>x
def nj (p:DV T->Bool):Tm T->Bool
 | []=>true
 | (_,_,v)::r=>match p v with
   | true=>nj p r
   | false=>false
def tR (p:DV T->Bool):List (Nat×Tm T)->Bool
 | []=>true
 | (_,tm)::r=>match nj p tm with
   | true=>tR p r
   | false=>false
def tS (q:DX T->Bool):List (DE T)->Bool
 | []=>true
 | e::r=>match q e.x with
   | true=>tS q r
   | false=>false
theorem Rv {p:DV T->Bool} (hu:p .u =true): ∀ {tm:Tm T},nj p tm=true-> ∀ i,p (lk tm i)=true
 | [],_,i=>hu
 | (s,t,v)::r,h,i=>by
   simp only [nj]at h;split at h
   ·rename_i hv;simp only [lk];cases Nat.beq s i
    ·exact Rv hu h i
    ·exact hv
   ·cases h
theorem ZK {p:DV T->Bool} (hu:p .u =true): ∀ {l:List (Nat×Tm T)},tR p l=true-> ∀ x∈l, ∀ i,p (lk x.2 i)=true
 | [],_,x,hx,_=>by cases hx
 | (m,tm)::r,h,x,hx,i=>by
   simp only [tR]at h;split at h
   ·rename_i hv;rcases mem_cons.1 hx with rfl | hx
    ·exact Rv hu hv i
    ·exact ZK hu h x hx i
   ·cases h
theorem ZL {q:DX T->Bool}: ∀ {l:List (DE T)},tS q l=true-> ∀ e∈l,q e.x=true
 | [],_,e,he=>by cases he
 | x::r,h,e,he=>by
   simp only [tS]at h;split at h
   ·rename_i hv;rcases mem_cons.1 he with rfl | he
    ·exact hv
    ·exact ZL h e he
   ·cases h
def Af.aqj (st:Af T) (id:Ah):Bool:=nj (fun v=> !(v.p_ id)) st.tm&&(tR (fun v=> !(v.p_ id)) st.gh&&tS (fun x=> !(x.p_ id)) st.so)
def Af.kill (st:Af T) (id:Ah):Option (Af T):=match C4 id||Fh id with
 | true=>none
 | false=>match st.aqj id with
   | true=>some {st with so:=st.so.filter fun e=> !(Bf e.id id)}
   | false=>some (let s:=st.aeo (DV.p_ id) (fun _=> .u) (DX.p_ id) (O2 id);{s with so:=s.so.filter fun e=> !(Bf e.id id)})
theorem vU {id:Ah} {c:DC T} (h:c.ok):(ZJ id c).ok :=by grind [ZJ,DC.ok]
theorem q8 (id:Ah) (c:DC T):(ZJ id c).toC =Ig id c.toC:=by grind [ZJ,Ig,DC.ahW,DC.toC]
theorem In {α:Type} {F:α->α}: ∀ {l:List α},(∀ x∈l,F x=x)->l.map F=l
 | [],_=>rfl
 | a::l,h=>by rw [map_cons,h a (by simp),In (fun x hx=>h x (by simp [hx]))]
theorem yx {F:V->V} {m:Nat} {tm:Tm T} (h: ∀ i,F (lk tm i).toV =(lk tm i).toV):(AD m tm).map F=AD m tm:=by refine In fun x hx=>?_;obtain⟨i,_,rfl⟩:=mem_map.1 hx;exact h i
theorem Ahl {F:V->V} {l:List (Nat×Tm T)} (h: ∀ x∈l, ∀ i,F (lk x.2 i).toV =(lk x.2 i).toV):(l.flatMap fun f=>AD f.1 f.2).map F=l.flatMap fun f=>AD f.1 f.2:=by refine In fun x hx=>?_;obtain⟨y,hy,hx⟩:=List.mem_flatMap.1 hx;obtain⟨i,_,rfl⟩:=mem_map.1 hx;grind
def JB:List V->List V->Prop
 | [],[]=>True
 | x::xs,y::ys=>(y= .undef \/y=x)/\JB xs ys
 | _,_=>False
theorem JB.refl: ∀ l:List V,JB l l
 | []=>trivial
 | x::xs=>⟨.inr rfl,JB.refl xs⟩
theorem JB.append: ∀ {a b c d:List V},JB a b->JB c d->JB (a++c) (b++d)
 | [],[],_,_,_,h=>h
 | [],_::_,_,_,h,_=>h.elim
 | _::_,[],_,_,h,_=>h.elim
 | _::_,_::_,_,_,h,k=>⟨h.1,h.2.append k⟩
theorem JB.get: ∀ {a b:List V},JB a b->b.length=a.length/\ ∀ i,b.getD i .undef = .undef \/b.getD i .undef =a.getD i .undef
 | [],[],_=>(by grind)
 | [],_::_,h=>h.elim
 | _::_,[],h=>h.elim
 | x::xs,y::ys,h=>by
   obtain⟨h1,h2⟩:=JB.get h.2;refine⟨by simp [h1],fun i=>?_⟩;cases i with
   | zero=>simpa using h.1
   | succ i=>simpa using h2 i
theorem JB.map {α:Type} {f g:α->V}: ∀ {l:List α},(∀ x∈l,g x= .undef \/g x=f x)->JB (l.map f) (l.map g)
 | [],_=>trivial
 | a::l,h=>⟨h a (by simp),JB.map fun x hx=>h x (by simp [hx])⟩
theorem JB.set: ∀ {a b:List V},JB a b-> ∀ (i:Nat) (v:V),JB (a.set i v) (b.set i v)
 | [],[],_,_,_=>trivial
 | [],_::_,h,_,_=>h.elim
 | _::_,[],h,_,_=>h.elim
 | _::_,_::_,h,0,v=>⟨.inr rfl,h.2⟩
 | _::_,_::_,h,i+1,v=>⟨h.1,h.2.set i v⟩
theorem JB.of {a b:List V} (hl:b.length=a.length) (h: ∀ i,b.getD i .undef = .undef \/b.getD i .undef =a.getD i .undef):JB a b:=by
 induction a generalizing b with
 | nil=>
   cases b with
   | nil=>trivial
   | cons y ys=>simp at hl
 | cons x xs ih=>
   cases b with
   | nil=>simp at hl
   | cons y ys=>exact⟨by simpa using h 0,ih (by grind) (fun i=>by simpa using h (i+1))⟩
theorem Cp.put {a b:St} (h:Cp a b) (d:Option Nat) (v:V):Cp (a.put d v) (b.put d v):=by
 cases d with
 | none=>exact h
 | some d=>
   have:=((JB.of h.len h.tm).set d v).get;exact⟨this.1,this.2,h.so,h.nd,h.gh,h.pre⟩
theorem Ep {H:As T} {st:Af T} (h:AH H st) (p:DE T->Bool):AH H {st with so:=st.so.filter p}:=
 ⟨h.tm,h.gh,fun e he=>h.so e (by grind),List.Sublist.nodup (by grind [List.filter_sublist]) h.nd⟩
theorem ZM (id:Ah) (hd:C4 id=false) (l:List (DE T)):(l.filter fun e=> !(Bf e.id id)).map DE.toE=(l.map DE.toE).filter (fun e=>e.id != id&& !(C4 id&&Fh e.id)):=by
 induction l with
 | nil=>rfl
 | cons e l ih=>
   simp only [List.filter_cons,map_cons,DE.toE_id,hd,Bool.false_and,Bool.not_false,Bool.and_true,CT]at ih ⊢;grind
theorem jx {id:Ah} {e:DE T} (h:e.x.p_ id=false):e.toE.fre id=true:=by grind [Aw.fre,DE.toE,DX.p_,O1]
theorem q9 {id:Ah} {e:DE T} (t:Nat):(⟨e.id,t,O2 id e.x⟩:DE T).toE =Aw.kill id e.toE:=by
 unfold DE.toE;cases hxx:e.x with
 | box cs=>
   simp only [O2,Aw.kill,CK,map_map,Aw.mk.injEq,and_true,true_and];grind [List.map_congr_left,q8]
 | row E l=>rfl
 | deep E n l h=>rfl
theorem nk (id:Ah) (p:Ah->Bool->Bool) (l:List Aw):(l.map (Aw.kill id)).filter (fun e=>e.id != id&& !(C4 id&&Fh e.id))=(l.filter (fun e=>e.id != id&& !(C4 id&&Fh e.id))).map (Aw.kill id):=by induction l<;>grind [Aw.L_]
theorem nl {id:Ah} {m n:Nat} {tm:Tm T}:JB ((AD m tm).map (Ff id)) (AD m (QD (DV.p_ id) (fun _=> .u) n tm)):=by unfold AD;rw [map_map];refine JB.map fun i _=>?_;simp only [Function.comp,M7 (p:=DV.p_ id) (f:=fun _=>DV.u) (by simp [DV.p_])];grind [DV.toV,Zq,DV.ahV]
theorem Ad0 {id:Ah}: ∀ (l:List (Nat×Tm T)) (n:Nat),JB ((l.flatMap fun f=>AD f.1 f.2).map (Ff id)) ((Rt (DV.p_ id) (fun _=> .u) n l).flatMap fun f=>AD f.1 f.2)
 | [],_=>trivial
 | (m,tm)::r,n=>by simp only [Rt,flatMap_cons,map_append];exact nl.append (Ad0 r _)
theorem Af.amI {H:As T} {st an:Af T} {id:Ah} (h:AH H st) (hk:st.kill id=some an):(∃ H',Nx H st H' an)/\Cp (st.toSt.kill id) an.toSt/\an.toSt.so=(st.toSt.kill id).so /\C4 id=false/\Fh id=false/\an.pre=st.pre/\ ∀ e∈an.so,e.id ≠ id:=by
 have nid: ∀ l:List (DE T), ∀ e∈l.filter (fun e=> !(Bf e.id id)),e.id ≠ id:=(by grind [AN]);unfold Af.kill at hk;split at hk
 ·cases hk
 ·rename_i hd;simp only [or_eq_false_iff]at hd;split at hk
  ·rename_i hn;injection hk with hk;subst hk;simp only [Af.aqj,and_eq_true]at hn;obtain⟨n1,n2,n3⟩:=hn;have k1: ∀ i,Ff id (lk st.tm i).toV =(lk st.tm i).toV :=(by grind [Zq,DV.ahV,Rv,DV.p_]);have k2: ∀ x∈st.gh, ∀ i,Ff id (lk x.2 i).toV =(lk x.2 i).toV :=fun x hx i=>(by grind [Zq,DV.ahV,ZK,DV.p_]);have e:(({st with so:=st.so.filter fun e=> !(Bf e.id id)}:Af T)).toSt =st.toSt.kill id:=by simp only [Af.toSt,St.kill,St.mk.injEq,and_true];refine⟨(yx k1).symm,?_,(Ahl k2).symm⟩;rw [ZM id hd.1];refine(In fun e he=>?_).symm;obtain⟨x,hx,rfl⟩:=mem_map.1 (List.mem_filter.1 he).1;grind [ZL,Aw.agE,jx]
   exact⟨⟨H,C6.refl _ _,le_refl _,Ep h _⟩,e▸Cp.refl _,by rw [e],hd.1,hd.2,rfl,nid _⟩
  ·injection hk with hk;subst hk;obtain⟨H',hN⟩:=Af.aeI (p:=DV.p_ id) (f:=fun _=> .u) (q:=DX.p_ id) (g:=O2 id) h (fun _=>by simp only [DV.ok]) (fun {x} hx=>by
    cases x with
    | box cs=>
      simp only [O2,DX.ok]at hx ⊢;refine C8.2 fun c hc=>?_;obtain⟨d,h1,rfl⟩:=mem_map.1 hc;grind [vU,C8]
    | row E l=>exact hx
    | deep E n l h=>exact hx)
   have hso:(((Ru (DX.p_ id) (O2 id) (st.nx+st.tm.length+N8 st.gh) st.so).filter fun e=> !(Bf e.id id)).map DE.toE)=(st.toSt.kill id).so :=by rw [ZM id hd.1,O0 (F:=Aw.kill id) _ (fun e _=>⟨fun _ t=>q9 t,fun hm=>Aw.agE (jx hm)⟩)];exact nk id (fun _ _=>true) _
   refine⟨⟨H',hN.ext,hN.le,Ep hN.ok _⟩,?_,hso,hd.1,hd.2,rfl,nid _⟩;have a:=(nl (id:=id) (m:=st.m) (n:=st.nx) (tm:=st.tm)).get;have b:=(Ad0 (id:=id) st.gh (st.nx+st.tm.length)).get;exact⟨a.1,a.2,fun e he=>by rw [<-hso];exact he,fun hn=>by have:(Af.toSt {(st.aeo (DV.p_ id) (fun _=> .u) (DX.p_ id) (O2 id))with so:=(st.aeo (DV.p_ id) (fun _=> .u) (DX.p_ id) (O2 id)).so.filter fun e=> !(Bf e.id id)}).so =(st.toSt.kill id).so :=hso;grind,b,rfl⟩
def Af.new (st:Af T) (id:Ah) (x:DX T):Option (Af T):=match st.kill id,x.p_ id with
 | some s,false=>some {s with so:=⟨id,s.nx,x⟩::s.so,nx:=s.nx+1}
 | _,_=>none
theorem Af.acv {H:As T} {st an:Af T} {id:Ah} {x:DX T} (h:AH H st) (hx:x.ok) (hk:st.new id x=some an):(∃ H',Nx H st H' an)/\Cp (st.toSt.new (⟨id,0,x⟩:DE T).toE) an.toSt/\an.pre=st.pre:=by
 unfold Af.new at hk;split at hk
 ·rename_i s hs hm;injection hk with hk;subst hk;obtain⟨⟨H',hN⟩,h2,h2',h3,h4,h5,h6⟩:=Af.amI h hs;have he:=C6.Tl H' s.nx ⟨id,s.nx,x⟩;refine⟨⟨H'.Tl s.nx ⟨id,s.nx,x⟩,hN.trans ⟨he,le_succ _,?_,?_,?_,?_⟩⟩,?_,h5⟩
  ·exact BY he (le_succ _) hN.ok.tm
  ·exact fun f hf=>BY he (le_succ _) (hN.ok.gh f hf)
  ·intro e hm';rcases mem_cons.1 hm' with rfl | hm'
   ·simp_all [As.Tl]
   ·exact Fu he (le_succ _) hN.ok.so e hm'
  ·rw [map_cons];refine nodup_cons.2 ⟨fun hm'=>?_,hN.ok.nd⟩;grind
  ·have e1:(⟨id,0,x⟩:DE T).toE.id =id:=DE.toE_id _;have e2:(⟨id,s.nx,x⟩:DE T).toE =(⟨id,0,x⟩:DE T).toE :=rfl;have e3:Aw.kill id (⟨id,0,x⟩:DE T).toE =(⟨id,0,x⟩:DE T).toE :=Aw.agE (jx hm);have e5:(st.toSt.new (⟨id,0,x⟩:DE T).toE).so =(⟨id,0,x⟩:DE T).toE ::s.toSt.so:=by grind [St.new,Wy]
   have e6:(Af.toSt {s with so:=⟨id,s.nx,x⟩::s.so,nx:=s.nx+1}).so =(⟨id,0,x⟩:DE T).toE ::s.toSt.so:=rfl;have hl:=h2;rw [show (st.toSt.kill id)=st.toSt.kill (⟨id,0,x⟩:DE T).toE.id by rw [e1]]at hl;exact⟨hl.len,hl.tm,(by grind),(by grind),hl.gh,by show s.pre=st.pre;exact h5⟩
 ·cases hk
end Go.PL
namespace Go.PL
open Go Go.RowKit
variable {T:Bo}
def N9 (id:Ah) (E:Nat) (l:List (T.den E)) (c:DC T):DC T:=match c.p_ id with
 | false=>c
 | true=>match c with
   | .c (.e_ _)=> .k (.l_ E) l
   | _=> .c .any
mutual
def Er (id:Ah) (E:Nat) (l:List (T.den E)):DV T->DV T
 | .c x=> .c (N9 id E l x)
 | .agg cs=> .agg (cs.map (N9 id E l))
 | .tup vs=> .tup (Kl id E l vs)
 | .g k v=> .g k (Er id E l v)
 | .u => .u
def Kl (id:Ah) (E:Nat) (l:List (T.den E)):List (DV T)->List (DV T)
 | []=>[]
 | v::vs=>Er id E l v::Kl id E l vs
end
def gi (id:Ah) (E:Nat) (l:List (T.den E)):DX T->DX T
 | .box cs=> .box (cs.map (N9 id E l))
 | x=>x
def Af.frz (st:Af T) (id:Ah):Option (Af T):=match DG st id with
 | some ⟨E,l⟩=>some (let s:=st.aeo (DV.p_ id) (Er id E l) (DX.p_ id) (gi id E l);{s with so:=s.so.filter fun e=> !(Bf e.id id)})
 | none=>none
section
variable {id:Ah} {E:Nat} {l:List (T.den E)}
theorem gn (c:DC T):(N9 id E l c).toC =KW id l.length (l.flatMap (T.enc E)) c.toC:=by
 unfold N9;cases hm:c.p_ id with
 | false=>
   rw [DC.ahW]at hm;simp only;cases hc:c.toC<;>rw [hc]at hm<;>simp only [C.p_,beq_eq_false_iff_ne,ne_eq]at hm<;>simp only [KW]<;>first
    | grind
    | grind
    | rfl
 | true=>
   have hm':=hm;rw [DC.ahW]at hm';simp only;split
   ·simp_all [DC.p_,AbH,AN,DC.toC,Bm,KW]
   ·rename_i Tj;have: ∀ i,c.toC ≠ .e_ i:=fun i he=>by
     cases c with
     | c x=>simp only [DC.toC]at he;simp_all
     | k kd x=>cases kd<;>simp [DC.toC,Bm]at he
     | ip=>simp [DC.toC]at he
     | rp=>simp [DC.toC]at he
     | ap=>simp [DC.toC]at he
     | bs=>simp [DC.toC]at he
     | clo b f cs=>cases b<;>simp [DC.toC]at he
    cases hc:c.toC<;>rw [hc]at hm' this<;>simp only [C.p_,beq_iff_eq,Bool.false_eq_true]at hm'<;>simp only [KW,DC.toC]<;>first
     | grind
     | grind
theorem ZN {c:DC T} (h:c.ok):(N9 id E l c).ok :=by unfold N9;grind [DC.ok]
theorem ZO (cs:List (DC T)):Ar (cs.map (N9 id E l))=(Ar cs).map (KW id l.length (l.flatMap (T.enc E))):=by grind [CK,List.map_congr_left,gn]
mutual
theorem Va: ∀ v:DV T,(Er id E l v).toV =Mc id l.length (l.flatMap (T.enc E)) v.toV
 | .c x=>by simp only [Er,DV.toV,Mc,gn]
 | .agg cs=>by simp only [Er,DV.toV,Mc,ZO]
 | .tup vs=>by simp only [Er,DV.toV,Mc,ZP vs]
 | .g k v=>by simp only [Er,DV.toV,Mc,Va v]
 | .u =>by simp only [Er,DV.toV,Mc]
theorem ZP: ∀ vs:List (DV T),Bg (Kl id E l vs)=N6 id l.length (l.flatMap (T.enc E)) (Bg vs)
 | []=>by simp only [Kl,Bg,N6]
 | v::vs=>by simp only [Kl,Bg,N6,Va v,ZP vs]
end
theorem ZQ: ∀ {cs:List (DC T)},SN id cs=false->cs.map (N9 id E l)=cs
 | [],_=>rfl
 | c::cs,h=>by
   simp only [SN]at h;split at h
   ·cases h
   ·rename_i hc;have:N9 id E l c=c:=by unfold N9;simp only [hc]
    rw [map_cons,ZQ h,this]
mutual
theorem ZR: ∀ v:DV T,v.p_ id=false->Er id E l v=v
 | .c x,h=>by simp_all [DV.p_,Er,N9]
 | .agg cs,h=>by grind [DV.p_,Er,ZQ]
 | .tup vs,h=>by simp only [DV.p_]at h;simp only [Er,gp vs h]
 | .g k v,h=>by simp only [DV.p_]at h;simp only [Er,ZR v h]
 | .u,_=>by simp only [Er]
theorem gp: ∀ vs:List (DV T),gg id vs=false->Kl id E l vs=vs
 | [],_=>by simp only [Kl]
 | v::vs,h=>by
   simp only [gg]at h;split at h
   ·cases h
   ·rename_i hv;simp only [Kl,ZR v hv,gp vs h]
end
theorem SO {f:DC T->DC T} (hf: ∀ c,c.ok->(f c).ok) {cs:List (DC T)} (h:Ce cs):Ce (cs.map f):=C8.2 fun c hc=>by obtain⟨d,h1,rfl⟩:=mem_map.1 hc;grind [C8]
mutual
theorem ZS {H:As T} {n:Nat}: ∀ {v:DV T},v.ok H n->(Er id E l v).ok H n
 | .c x,h=>by grind [DV.ok,Er,ZN]
 | .agg cs,h=>by grind [DV.ok,Er,SO,ZN]
 | .tup vs,h=>by simp only [DV.ok,Er]at h ⊢;exact gq h
 | .g k v,h=>by simp only [DV.ok,Er]at h ⊢;exact⟨h.1,fun q=>ZS (h.2 q)⟩
 | .u,_=>by simp only [DV.ok,Er]
theorem gq {H:As T} {n:Nat}: ∀ {vs:List (DV T)},CX H n vs->CX H n (Kl id E l vs)
 | [],_=>by simp only [CX,Kl]
 | v::vs,h=>by simp only [CX,Kl]at h ⊢;exact⟨ZS h.1,gq h.2⟩
end
theorem gu {e:DE T} (t:Nat):(⟨e.id,t,gi id E l e.x⟩:DE T).toE =Aw.frz id l.length (l.flatMap (T.enc E)) e.toE:=by grind [DE.toE,gi,Aw.frz,ZO]
theorem yz {e:DE T} (h:e.x.p_ id=false):Aw.frz id l.length (l.flatMap (T.enc E)) e.toE=e.toE:=by rw [<-gu e.tag];grind [DX.p_,gi,ZQ,DE.toE]
theorem rc (id:Ah) (n:Nat) (cs:List C) (l:List Aw):(l.map (Aw.frz id n cs)).filter (fun e=>e.id != id)=(l.filter (fun e=>e.id != id)).map (Aw.frz id n cs):=by induction l<;>grind [Aw.ajI]
theorem aho (id:Ah) (l:List (DE T)):(l.filter fun e=> !(Bf e.id id)).map DE.toE=(l.map DE.toE).filter (fun e=>e.id != id):=by induction l<;>grind [DE.toE_id,CT]
end
theorem Af.agN {H:As T} {st an:Af T} {id:Ah} (h:AH H st) (hk:st.frz id=some an):(∃ H',Nx H st H' an)/\an.toSt=st.toSt.freeze id/\st.toSt.acs id=true/\an.pre=st.pre:=by
 unfold Af.frz at hk;split at hk
 ·rename_i E l hr;injection hk with hk;subst hk;obtain⟨hl,_,_⟩:=BN hr;obtain⟨H',hN⟩:=Af.aeI (p:=DV.p_ id) (f:=Er id E l) (q:=DX.p_ id) (g:=gi id E l) h ZS (fun {x} hx=>by cases x<;>grind [gi,DX.ok,SO,ZN])
  refine⟨⟨H',hN.ext,hN.le,Ep hN.ok _⟩,?_,by simp only [St.acs,hl],rfl⟩;have F1: ∀ tm:Tm T, ∀ i,(DV.p_ id (lk tm i)=true->(Er id E l (lk tm i)).toV =Mc id l.length (l.flatMap (T.enc E)) (lk tm i).toV)/\(DV.p_ id (lk tm i)=false->Mc id l.length (l.flatMap (T.enc E)) (lk tm i).toV =(lk tm i).toV):=fun tm i=>
   (by grind [Va,ZR])
  have fm: ∀ l':List V,N6 id l.length (l.flatMap (T.enc E)) l'=l'.map (Mc id l.length (l.flatMap (T.enc E))):=by intro l';induction l'<;>grind [N6]
  unfold St.freeze;rw [hl];simp only [Bool.not_true,Bool.false_eq_true,if_false,Af.toSt,Af.aeo,St.mk.injEq,and_true,fm];refine⟨(by grind [ng,DV.p_]),?_,(by grind [nh,DV.p_])⟩;rw [aho,O0 (F:=Aw.frz id l.length (l.flatMap (T.enc E))) _ (fun e _=>⟨fun _ t=>gu t,fun hm=>yz hm⟩)];exact rc _ _ _ _
 ·cases hk
def Vb (id:Ah) (t:Nat) (x:DX T):List (DE T)->List (DE T)
 | []=>[]
 | e::r=>match Bf e.id id with
   | true=>⟨e.id,t,x⟩::r
   | false=>e::Vb id t x r
def Af.abn (st:Af T) (id:Ah) (x:DX T):Af T:={st with so:=Vb id st.nx x st.so,nx:=st.nx+1}
theorem ZT (id:Ah) (t:Nat) (x:DX T): ∀ l:List (DE T),(Vb id t x l).map DE.id=l.map DE.id
 | []=>rfl
 | e::r=>by unfold Vb;split<;>simp [ZT id t x r]
theorem ZU {id:Ah} {t:Nat} {x:DX T} {F:Aw->Aw} (hF: ∀ a:Aw,a.id ≠ id->F a=a): ∀ {l:List (DE T)} {e:DE T},(l.map DE.id).Nodup ->e∈l->e.id=id->F e.toE=(⟨id,t,x⟩:DE T).toE ->(l.map DE.toE).map F=(Vb id t x l).map DE.toE
 | [],_,_,h,_,_=>by cases h
 | a::r,e,hn,hm,he,hf=>by
   rw [map_cons]at hn;obtain⟨n1,n2⟩:=nodup_cons.1 hn;unfold Vb;split
   ·rename_i hb;have hb:=AN.1 hb;have hae:a=e:=by grind
    subst hae;simp only [map_cons,hf];rw [<-hb];congr 1;refine In fun y hy=>?_;obtain⟨z,hz,rfl⟩:=mem_map.1 hy;grind [DE.toE_id]
   ·rename_i hb;have Tj:a.id ≠ id:=fun q=>by rw [AN.2 q]at hb;cases hb
    have hm':e∈r:=by
     rcases mem_cons.1 hm with q | q
     ·subst q;exact absurd he Tj
     ·exact q
    simp only [map_cons,ZU hF n2 hm' he hf];rw [hF _ (by rw [DE.toE_id];exact Tj)]
theorem Af.abk {H:As T} {st:Af T} (h:AH H st) (id:Ah) {x:DX T} (hx:x.ok): ∃ H',Nx H st H' (st.abn id x):=by
 by_cases hid: ∃ e∈st.so,e.id=id
 ·obtain⟨e0,_,he0⟩:=hid;have he:=C6.Tl H st.nx ⟨id,st.nx,x⟩;refine⟨H.Tl st.nx ⟨id,st.nx,x⟩,he,le_succ _,BY he (le_succ _) h.tm,fun f hf=>BY he (le_succ _) (h.gh f hf),?_,by simp only [Af.abn,ZT];exact h.nd⟩;have key: ∀ l:List (DE T),(∀ e∈l,e.tag<st.nx/\H.e e.tag=e/\e.x.ok)-> ∀ e∈Vb id st.nx x l,e.tag<st.nx+1/\(H.Tl st.nx ⟨id,st.nx,x⟩).e e.tag=e/\e.x.ok:=by
   intro l;induction l with
   | nil=>intro _ e hm;cases hm
   | cons a r ih=>
     intro hl e hm;unfold Vb at hm;split at hm
     ·rename_i hb;have hb:=AN.1 hb;rcases mem_cons.1 hm with rfl | hm
      ·simp_all [As.Tl]
      ·exact Fu he (le_succ _) hl e (by simp [hm])
     ·rcases mem_cons.1 hm with rfl | hm
      ·exact Fu he (le_succ _) hl e (by simp)
      simp_all
  exact key st.so h.so
 ·have: ∀ l:List (DE T),(∀ e∈l,e.id ≠ id)->Vb id st.nx x l=l:=by intro l;induction l<;>grind [Vb,AN]
  have hs:Vb id st.nx x st.so=st.so:=(by grind);exact⟨H,C6.refl _ _,le_succ _,BY (C6.refl _ _) (le_succ _) h.tm,fun f hf=>BY (C6.refl _ _) (le_succ _) (h.gh f hf),by simp only [Af.abn,hs];exact Fu (C6.refl _ _) (le_succ _) h.so,by simp only [Af.abn,hs];exact h.nd⟩
theorem Af.afp {H:As T} {st:Af T} (h:AH H st) {id:Ah} {x:DX T} {e:DE T} (hm:e∈st.so) (he:e.id=id) {cs:List C} {q:Bool} (hx:(⟨id,e.toE.row,cs,e.toE.pu&&q⟩:Aw)=(⟨id,st.nx,x⟩:DE T).toE):(st.abn id x).toSt =st.toSt.adw id cs q:=by have:=ZU (t:=st.nx) (x:=x) (F:=fun e=>if e.id==id then⟨e.id,e.row,cs,e.pu&&q⟩else e) (by grind) h.nd hm he (by grind [DE.toE_id]);simp_all [Af.toSt,Af.abn,St.adw]
end Go.PL
namespace Go.PL
open Go Go.RowKit
variable {T:Bo}
def nm:Operand->DV T->DV T
 | .const (.slice none 0 0),_=> .c (.c .s_)
 | _,v=>v
def rf:DV T->DV T
 | .c (.c .s_)=> .c (.c (.sl 0 []))
 | v=>v
def W4 {α:Type} (i:Nat) (x:α):Nat->List α->List α
 | _,[]=>[]
 | j,a::r=>(if i=j then x else a)::W4 i x (j+1) r
theorem nq {α:Type} {i:Nat} {x:α}: ∀ (l:List α) (j:Nat),j<=i->W4 i x j l=l.set (i - j) x
 | [],_,_=>rfl
 | a::r,j,h=>by
   unfold W4;by_cases hj:i=j
   ·subst hj;simp only [if_true,Nat.sub_self,List.set_cons_zero,List.cons.injEq,true_and];have: ∀ (r:List α) (k:Nat),i<k->W4 i x k r=r:=by
     intro r;induction r with
     | nil=>intro _ _;rfl
     | cons b r ih=>intro k hk;rw [W4,if_neg (by omega),ih _ (by omega)]
    grind
   ·rw [if_neg hj,nq r (j+1) (by omega),show i - j=(i - (j+1))+1 by omega,List.set_cons_succ]
def O3 (E:Nat):List (T.den E)->List (DC T)
 | []=>[]
 | x::l=>jv E x++O3 E l
theorem W5 (E:Nat): ∀ l:List (T.den E),Ar (O3 E l)=l.flatMap (T.enc E)
 | []=>by simp [O3,Ar]
 | x::l=>by rw [O3,CQ,Gz,W5 E l,flatMap_cons]
theorem gw (E:Nat): ∀ l:List (T.den E),Ce (O3 E l)
 | []=>by simp [O3,Ce]
 | x::l=>C9 (M6 E x) (gw E l)
def AbJ (E:Nat) (x:T.den E) (off:Nat) (cs:List (DC T)):Option (T.den E):=match Nat.ble (off+cs.length) (T.sz E)with
 | true=>xp false E ((jv E x).take off++(cs++(jv E x).drop (off+cs.length)))
 | false=>none
def rh (P:Program) (t:TypeId) (d:Option Nat) (st:Af T) (p v:DV T):M (Af T):=
 match K0 P t with
 | none=> .no
 | some (_,n)=>match p with
   | .c (.c (.ptr id off))=>match Ld st id,v.cells with
     | some ds,some cs=>Tf (Nat.beq cs.length n&&Nat.ble (off+n) ds.length) (.ret ((st.abn id (.box (ds.take off++(cs++ds.drop (off+n))))).put d .u))
     | _,_=> .no
   | .c (.rp id N i off)=>match DG st id,(rf v).cells with
     | some ⟨E,l⟩,some cs=>Tf (Nat.beq N (T.sz E)&&Nat.beq cs.length n) (.opt (idx l i) fun x=>match AbJ E x off cs with
       | some x'=> .ret ((st.abn id (.row E (l.set i.toNat x'))).put d .u)
       | none=> .no)
     | _,_=> .no
   | .c (.ap id base m E i off)=>match Ld st id,v.cells with
     | some ds,some cs=>match LK E m (ds.drop base)with
       | some l=>Tf (Nat.beq cs.length n&&Nat.ble (base+m*T.sz E) ds.length) (.opt (idx l i) fun x=>match AbJ E x off cs with
         | some x'=> .ret ((st.abn id (.box (ds.take base++(O3 E (W4 i.toNat x' 0 l)++ds.drop (base+m*T.sz E))))).put d .u)
         | none=> .no)
       | none=> .no
     | _,_=> .no
   | _=> .no
def Km (st:Af T) (d:Nat) (x:DX T) (v:Ah->DC T):M (Af T):=match st.new (d::st.pre) x with
 | some s=> .ret (s.put (some d) (.c (v (d::st.pre))))
 | none=> .no
def Rx (P:Program) (t:TypeId):Option (List (DC T)):=
 match P.info? t with
 | some i=>match i.zero with
   | some z=>Kg z.cells.toList
   | none=>none
 | none=>none
def ZV:DC T->DC T
 | .c .s_ => .c (.sl 0 [])
 | c=>c
def Vc:DV T->DV T
 | .c x=> .c (ZV x)
 | .agg cs=> .agg (cs.map ZV)
 | v=>v
def O4 (P:Program) (st:Af T) (d:Nat) (t:TypeId) (len:Nat) (ps:List (Nat×Operand)):M (Af T):=
 match Ej P t,Hs st [] ps with
 | some (E,n,_),some vs=>match Rx P E with
   | some z=>match W3 (fun i=>some (i*n,n)) ((List.replicate len z).flatMap id) (vs.map fun x=>(x.1,Vc x.2))with
     | some cs=>match LK E len cs with
       | some l=>Tf (Nat.beq n (T.sz E)&&(Nat.beq z.length n&&(Nat.blt 0 n&&(Nat.ble (len*n) (2 ^ 24)&&Nat.beq cs.length (len*n))))) (Km st d (.row E l) fun i=> .c (.e_ i))
       | none=> .no
     | none=> .no
   | none=> .no
 | _,_=> .no
def Ry (P:Program) (st:Af T) (d:Nat) (t:TypeId) (l c:Int):M (Af T):=
 match Ej P t with
 | some (E,n,by')=>match Rx P E with
   | some z=>match xp false E z with
     | some x=>Tf (Nat.beq n (T.sz E)&&(Nat.beq z.length n&&Nat.blt 0 n)) (.opt (k_ (0<=l/\l<=c/\c*by'<=140737488355328/\c<=maxLen)) fun _=>Km st d (.row E (List.replicate l.toNat x)) fun i=> .c (.e_ i))
     | none=> .no
   | none=> .no
 | none=> .no
def Le:DC T->Option Ah
 | .c (.e_ id)=>some id
 | _=>none
theorem Es {c:DC T} {id:Ah} (h:Le c=some id):c= .c (.e_ id):=by unfold Le at h;grind
def Ae2 (st:Af T) (E:Nat):DV T->Option (List (T.den E))
 | .c x=>match Le x with
   | some id=>match DG st id with
     | some ⟨E',l⟩=>Ij false (.l_ E) (.k (.l_ E') l)
     | none=>none
   | none=>Ij false (.l_ E) x
 | _=>none
def jy (P:Program) (st:Af T) (d:Nat) (t:TypeId) (u x:DV T):M (Af T):=
 match u,Ej P t with
 | .c (.c (.e_ id)),some (E',n,by')=>match DG st id with
   | some ⟨E,l⟩=>match Ae2 st E x with
     | some m=>Tf (Nat.beq E' E&&(Nat.beq n (T.sz E)&&Nat.blt 0 n)) (.opt (app by' l m) fun r=>match st.new id (.row E r)with
       | some s=> .ret (s.put (some d) (.c (.c (.e_ id))))
       | none=> .no)
     | none=> .no
   | none=> .no
 | _,_=> .no
def vV (P:Program) (st:Af T) (o:Oper):M (Af T):=
 match o.op with
 | .store t x y=>match st.arg [] x,st.arg [] y with
   | some p,some v=>rh P t o.dst st p (nm y v)
   | _,_=> .no
 | op=>match o.dst with
   | none=> .no
   | some d=>match op with
     | .alloc t=>match ZI P t with
       | some cs=>Km st d (.box cs) fun i=> .c (.ptr i 0)
       | none=> .no
     | .box _ x=>match st.arg [] x with
       | some v=>match v.cells with
         | some cs=>Km st d (.box cs) fun i=> .c (.ptr i 0)
         | none=> .no
       | none=> .no
     | .assign (.const (.slice none 0 0))=>match Dk P o.type with
       | some (E,n)=>Tf (Nat.beq n (T.sz E)) (Km st d (.row E []) fun i=> .c (.e_ i))
       | none=> .no
     | .buildSlice t len ps=>O4 P st d t len ps.toList
     | .makeSlice t l c=>match st.arg [] l,st.arg [] c with
       | some (.c (.k (.int _) l)),some (.c (.k (.int _) c))=>Ry P st d t l c
       | _,_=> .no
     | .call c=>match c.callee,c.args.toList,c.argTypes.toList with
       | .builtin .append,[u,x],[t,t']=>match st.arg [] u,st.arg [] x with
         | some a,some b=>Tf (Nat.beq t t') (jy P st d t a b)
         | _,_=> .no
       | _,_,_=> .no
     | _=> .no
def Ef (H:As T) (P:Program) (st:Af T) (o:Oper) (an:Af T):Prop:=
 (∃ H',Nx H st H' an)/\(ef P st.toSt o).1/\Cp (ef P st.toSt o).2 an.toSt/\an.pre=st.pre
section
variable {H:As T} {P:Program} {st:Af T}
theorem Af.D_ {H:As T} {st s:Af T} {H1:As T} (h:Nx H st H1 s) (d:Option Nat) {v:DV T} (hv:v.ok H1 s.nx): ∃ H',Nx H st H' (s.put d v):=by obtain⟨H2,h2⟩:=Af.aao h.ok d hv;exact⟨H2,h.trans h2⟩
theorem AS (s:Af T) (d:Option Nat) (v:DV T):(s.put d v).pre =s.pre:=by cases d<;>rfl
theorem Io {d:Nat} {x:DX T} {v:Ah->DC T} (hw:AH H st) (hx:x.ok) (hv: ∀ i,(v i).ok):
 Yl (Km st d x v) (fun an=>(∃ H',Nx H st H' an)/\Cp ((st.toSt.new (⟨d::st.pre,0,x⟩:DE T).toE).put (some d) (.c (v (d::st.pre)).toC)) an.toSt/\an.pre=st.pre):=by
 unfold Km;split
 ·rename_i s hs;obtain⟨⟨H',hN⟩,h2,h3⟩:=Af.acv hw hx hs;refine Yl.ret ⟨Af.D_ hN _ (by grind [DV.ok]),?_,by rw [AS];exact h3⟩;rw [Af.h_];exact h2.put _ _
 ·exact Yl.no
theorem nr {v:DV T} {id:Ah} {off:Nat} {e:Aw} (he:st.toSt.look id=some e) (hr:e.row.isSome=true):XN st.toSt (.c (.ptr id off)) v.toV=(rf v).toV :=by
 unfold rf;split
 ·grind [DV.toV,DC.toC,XN]
 ·rename_i Tj;unfold XN;split
  ·rename_i hv;exfalso;cases v with
   | c x=>
     cases x with
     | c y=>
       simp only [DV.toV,DC.toC,V.c.injEq]at hv;grind
     | k kd x=>cases kd<;>simp [DV.toV,DC.toC,Bm]at hv
     | clo b f cs=>cases b<;>simp [DV.toV,DC.toC]at hv
     | _=>simp [DV.toV,DC.toC]at hv
   | _=>simp [DV.toV]at hv
  ·rfl
theorem ny {v:V} {id:Ah} {off:Nat} {e:Aw} (he:st.toSt.look id=some e) (hr:e.row=none):XN st.toSt (.c (.ptr id off)) v=v:=by grind [XN]
theorem gx {E:Nat} {x x':T.den E} {off:Nat} {cs:List (DC T)} (h:AbJ E x off cs=some x'):off+cs.length<=T.sz E/\(T.enc E x).take off++(Ar cs++(T.enc E x).drop (off+(Ar cs).length))=T.enc E x':=by
 unfold AbJ at h;split at h
 ·rename_i hb;refine⟨by simp_all,?_⟩;rw [<-(Ik h).2 rfl,CQ,CQ,Jz,Ga,Gz,AM]
 ·cases h
theorem ri {l:List C} {a b c:List C} (h:a++(b++c)=l) (hl:Ao l=true):Ao b=true:=by subst h;simp_all [BT]
theorem vW (hw:AH H st) {t:TypeId} {d:Option Nat} {p v:DV T} (hv:v.ok H st.nx):
 Yl (rh P t d st p v) (fun an=>(∃ H',Nx H st H' an)/\(Hk P st.toSt t p.toV (XN st.toSt p.toV v.toV)).1/\(Hk P st.toSt t p.toV (XN st.toSt p.toV v.toV)).2.put d .undef =an.toSt/\an.pre=st.pre):=by
 unfold rh;split
 ·exact Yl.no
 ·rename_i ag n ht;split
  ·rename_i id off;split
   ·rename_i ds cs hb hc;refine Yl.Tf fun hg=>Yl.ret ?_;simp only [and_eq_true,beq_eq,ble_eq]at hg;obtain⟨hl,_,e,h1,h2,h3⟩:=Hr hb;obtain⟨c1,c2⟩:=DV.adh hc;have hds:=SI hw hb;have hok:(DX.box (ds.take off++(cs++ds.drop (off+n)))).ok :=C9 (U5 hds _) (C9 (c2 hv) (U6 hds _));obtain⟨H1,hN⟩:=Af.abk hw id hok;refine⟨Af.D_ hN _ (by simp only [DV.ok]),?_⟩;simp only [DV.toV,DC.toC];rw [ny hl rfl];simp only [Hk,c1,ht,hl];refine⟨(by grind [AM]),?_,by rw [AS];rfl⟩;rw [Af.h_,Af.afp hw h1 h2 (cs:=(Ar ds).take off++Ar cs++(Ar ds).drop (off+(Ar cs).length)) (q:=Ao (Ar cs))]
    ·simp only [DV.toV]
    ·rw [DE.toE_box h3];simp only [DE.toE,Aw.mk.injEq,Bool.false_and,and_true,true_and];grind [CQ,Jz,Ga,AM]
   ·exact Yl.no
  ·rename_i id N i off;split
   ·rename_i E l cs hr hc;refine Yl.Tf fun hg=>Yl.opt fun x hx=>?_;simp only [and_eq_true,beq_eq]at hg;obtain⟨hN,hcs⟩:=hg;subst hN;split
    ·rename_i x' hp;obtain⟨p1,p2⟩:=gx hp;obtain⟨hl,_,e,h1,h2,h3⟩:=BN hr;obtain⟨c1,c2⟩:=DV.adh hc;obtain⟨s1,s2⟩:=xV (l:=l) (l':=l.set i.toNat x') (i:=i) (x:=x) (x':=x') (e:=T.enc E) (N:=T.sz E) (o:=off) (base:=0) (cs:=Ar cs) (pre:=[]) (post:=[]) (off:=i.toNat*T.sz E+off) (c0:=l.flatMap (T.enc E)) (c1:=(l.set i.toNat x').flatMap (T.enc E)) (by simp) rfl (by simp) rfl hx (fun y=>AQ E y) (by omega) (by rw [AM];exact p1) p2;obtain⟨H1,hN⟩:=Af.abk hw id (x:= .row E (l.set i.toNat x')) trivial;refine Yl.ret ⟨Af.D_ hN _ (by simp only [DV.ok]),?_⟩;simp only [DV.toV,DC.toC];rw [nr hl rfl];simp only [Hk,c1,ht,hl];refine⟨(by grind [AM]),?_,by rw [AS];rfl⟩;rw [s2,Af.h_,Af.afp hw h1 h2 (cs:=(l.set i.toNat x').flatMap (T.enc E)) (q:=Ao (Ar cs))]
     ·simp only [DV.toV]
     grind [ri,ZA,DE.toE]
    ·exact Yl.no
   ·exact Yl.no
  ·rename_i id base m E i off;split
   ·rename_i ds cs hb hc;split
    ·rename_i l hdr;refine Yl.Tf fun hg=>Yl.opt fun x hx=>?_;simp only [and_eq_true,beq_eq,ble_eq]at hg;split
     ·rename_i x' hp;obtain⟨p1,p2⟩:=gx hp;obtain⟨hl,_,e,h1,h2,h3⟩:=Hr hb;obtain⟨c1,c2⟩:=DV.adh hc;obtain⟨hlen,r,hr⟩:=En hdr;rw [Ga]at hr;have hfl:(l.flatMap (T.enc E)).length =m*T.sz E:=by grind [BQ,AQ]
      have aCl:r=(Ar ds).drop (base+m*T.sz E):=by grind [List.drop_drop,List.drop_left]
      have hs:W4 i.toNat x' 0 l=l.set i.toNat x':=by simp_all [nq]
      have hle:base<=(Ar ds).length :=by rw [AM];omega
      obtain⟨s1,s2⟩:=xV (l:=l) (l':=l.set i.toNat x') (i:=i) (x:=x) (x':=x') (e:=T.enc E) (N:=T.sz E) (o:=off) (base:=base) (cs:=Ar cs) (pre:=(Ar ds).take base) (post:=r) (off:=base+i.toNat*T.sz E+off) (c0:=Ar ds) (c1:=(Ar ds).take base++((l.set i.toNat x').flatMap (T.enc E)++r))
       (by grind [List.take_append_drop]) (by grind) rfl rfl hx (fun y=>AQ E y) (by omega) (by rw [AM];exact p1) p2
      have hds:=SI hw hb;have hok:(DX.box (ds.take base++(O3 E (W4 i.toNat x' 0 l)++ds.drop (base+m*T.sz E)))).ok :=C9 (U5 hds _) (C9 (gw _ _) (U6 hds _));obtain⟨H1,hN⟩:=Af.abk hw id hok;refine Yl.ret ⟨Af.D_ hN _ (by simp only [DV.ok]),?_⟩;simp only [DV.toV,DC.toC];rw [ny hl rfl];simp only [Hk,c1,ht,hl];refine⟨(by grind [AM]),?_,by rw [AS];rfl⟩;rw [s2,Af.h_,Af.afp hw h1 h2 (cs:=(Ar ds).take base++((l.set i.toNat x').flatMap (T.enc E)++r)) (q:=Ao (Ar cs))]
      ·simp only [DV.toV]
      ·rw [DE.toE_box h3];simp only [DE.toE,Aw.mk.injEq,Bool.false_and,and_true,true_and];grind [CQ,Jz,Ga,W5]
     ·exact Yl.no
    ·exact Yl.no
   ·exact Yl.no
  ·exact Yl.no
end
end Go.PL
namespace Go.PL
open Go Go.RowKit
variable {T:Bo}
section
variable {H:As T} {P:Program} {st:Af T}
theorem Ht (hw:AH H st) {x:Operand} {v:DV T} (h:st.arg [] x=some v):v.ok H st.nx/\(st.toSt.arg true x).1/\(st.toSt.arg true x).2=v.toV:=
 Af.afh (key:=[]) hw (fun _ hl=>by cases hl) h rfl
theorem Ip {t:TypeId} {cs:List (DC T)} (h:Rx P t=some cs):QK P t=some (Ar cs)/\Ce cs:=by grind [Rx,QK,OX]
theorem SP {α:Type} (f:α->List (DC T)): ∀ l:List α,Ar (l.flatMap f)=l.flatMap (fun x=>Ar (f x))
 | []=>by simp [Ar]
 | a::l=>by rw [flatMap_cons,CQ,SP f l,flatMap_cons]
theorem Rz (z:List (DC T)) (hz:0<z.length) (n:Nat):Ar ((List.replicate n z).flatMap id)=Cj (Ar z) n:=by rw [SP,fT (fun x:List (DC T)=>Ar x) z rfl (by rw [AM];exact hz)];rfl
theorem ZW (c:DC T):(ZV c).toC =Hf c.toC:=by
 unfold ZV;split
 ·rfl
 ·rename_i Tj;cases c with
  | c x=>
    cases x with
    | s_=>grind
    | _=>rfl
  | k kd x=>cases kd<;>rfl
  | clo b f cs=>cases b<;>simp [DC.toC,Hf]
  | _=>simp [DC.toC,Hf]
theorem rj (v:DV T):(Vc v).toV =v.toV.agi:=by cases v<;>simp_all [Vc,DV.toV,V.agi,ZW,CK]
theorem ZX (vs:List (Nat×DV T)):nc (vs.map fun x=>(x.1,Vc x.2))=(nc vs).map WD:=by simp_all [nc,WD,rj]
theorem ZY (hw:AH H st) {d:Nat} {t:TypeId} {len:Nat} {ps:List (Nat×Operand)}:
 Yl (O4 P st d t len ps) (fun an=>(∃ H',Nx H st H' an)/\(Bh P st.toSt d t len ps).1/\Cp (Bh P st.toSt d t len ps).2 an.toSt/\an.pre=st.pre):=by
 unfold O4;split
 ·rename_i E n by' vs hs hp;split
  ·rename_i z hz;split
   ·rename_i cs hf;split
    ·rename_i l hl;refine Yl.Tf fun hg=>(Io hw (x:= .row E l) (by exact trivial) (fun _=>by simp only [DC.ok])).mono fun an h=>?_;simp only [and_eq_true,beq_eq,blt_eq,ble_eq]at hg;obtain⟨g1,g2,g3,g4,g5⟩:=hg;subst g1;obtain⟨h1,h2,h3⟩:=h;obtain⟨p1,p2,p3⟩:=Gb (key:=[]) hw (fun _ hl=>by cases hl) rfl hp;obtain⟨z1,z2⟩:=Ip hz;obtain⟨f1,_⟩:=Kk hf;rw [Rz z (by omega),ZX]at f1;obtain⟨hlen,r,hr⟩:=En hl;have hrn:r=[]:=by have:=congrArg List.length hr;grind [AM,BQ,AQ,List.length_eq_zero_iff]
     subst hrn;rw [List.append_nil]at hr;refine⟨h1,?_⟩;change (st.toSt.parts true ps).1 at p2;change (st.toSt.parts true ps).2=nc vs at p3;simp only [Bh,hs,z1,p3,f1];refine⟨(by simp_all [AM]),?_,h3⟩;rw [hr,vN];simp only [DE.toE,hlen,DC.toC]at h2;exact h2
    ·exact Yl.no
   ·exact Yl.no
  ·exact Yl.no
 ·exact Yl.no
theorem dk (hw:AH H st) {d:Nat} {t:TypeId} {l c:Int} {k k':IntKind}:
 Yl (Ry P st d t l c) (fun an=>(∃ H',Nx H st H' an)/\(K7 P st.toSt d t (.c (.int k l)) (.c (.int k' c))).1/\Cp (K7 P st.toSt d t (.c (.int k l)) (.c (.int k' c))).2 an.toSt/\an.pre=st.pre):=by
 unfold Ry;split
 ·rename_i E n by' hs;split
  ·rename_i z hz;split
   ·rename_i x hx;refine Yl.Tf fun hg=>Yl.opt fun u hu=>(Io hw (x:= .row E (List.replicate l.toNat x)) (by exact trivial) (fun _=>by simp only [DC.ok])).mono fun an h=>?_;simp only [and_eq_true,beq_eq,blt_eq]at hg;obtain⟨g1,g2,g3⟩:=hg;subst g1;obtain⟨h1,h2,h3⟩:=h;obtain⟨z1,z2⟩:=Ip hz;obtain⟨n1,n2,n3,n4⟩:=Cm hu;refine⟨h1,?_⟩;simp only [K7,hs,z1];refine⟨(by simp_all [AM]),?_,h3⟩;have hzx:=(Ik hx).2 rfl;have:=fT (T.enc E) x hzx (by rw [AM];omega) l.toNat
    rw [this];simp only [DE.toE,List.length_replicate,DC.toC]at h2;exact h2
   ·exact Yl.no
  ·exact Yl.no
 ·exact Yl.no
theorem vX {E:Nat} {x:DV T} {m:List (T.den E)} (h:Ae2 st E x=some m):Sv st.toSt (T.sz E) x.toV=some (m.length,m.flatMap (T.enc E),true):=by
 have hl: ∀ {E':Nat} {l:List (T.den E')} {m:List (T.den E)},Ij (T:=T) false (.l_ E) (.k (.l_ E') l)=some m->(C.sl l.length (l.flatMap (T.enc E'))=C.sl m.length (m.flatMap (T.enc E)))/\T.sz E'=T.sz E/\l.length=m.length:=by
  intro E' l m hc;unfold Ij at hc;simp only at hc;split at hc
  all_goals grind
 unfold Ae2 at h;split at h
 ·rename_i y;split at h
  ·rename_i id ho;have:=Es ho;subst this;split at h
   ·rename_i E' l hr;obtain⟨a,b,c⟩:=hl h;injection a with a1 a2;simp only [DV.toV,DC.toC,Sv,(BN hr).1,b,if_true];rw [a1,a2]
   ·cases h
  ·have:=(CB h).2 rfl;simp only [Bm]at this;simp only [DV.toV,this,Sv];rw [if_pos (BQ (fun y=>AQ E y) m)]
 ·cases h
theorem rk (hw:AH H st) {d:Nat} {t:TypeId} {u x:DV T}:
 Yl (jy P st d t u x) (fun an=>(∃ H',Nx H st H' an)/\(Gy P st.toSt d t u.toV x.toV).1/\Cp (Gy P st.toSt d t u.toV x.toV).2 an.toSt/\an.pre=st.pre):=by
 unfold jy;split
 ·rename_i id E' n by' hs;split
  ·rename_i E l hr;split
   ·rename_i m hm;refine Yl.Tf fun hg=>Yl.opt fun r hra=>?_;simp only [and_eq_true,beq_eq,blt_eq]at hg;obtain⟨g1,g2,g3⟩:=hg;subst g1 g2;split
    ·rename_i s hn;obtain⟨⟨H',hN⟩,h2,h3⟩:=Af.acv hw (x:= .row E' r) trivial hn;refine Yl.ret ⟨Af.D_ hN _ (by simp only [DV.ok,DC.ok]),?_⟩;have hb:=Lc hra;have hx:=xQ hra;simp only [DV.toV,DC.toC,Gy,hs,(BN hr).1,vX hm,true_and];refine⟨⟨g3,hb.1,hb.2⟩,?_,by rw [AS];exact h3⟩;rw [Af.h_];simp only [DE.toE,hx,List.length_append,List.flatMap_append]at h2;simp only [DV.toV,DC.toC,Bool.and_self];exact h2.put _ _
    ·exact Yl.no
   ·exact Yl.no
  ·exact Yl.no
 ·exact Yl.no
theorem Yz (hw:AH H st) (o:Oper):Yl (vV P st o) (Ef H P st o):=by
 have A: ∀ {x:Operand} {v:DV T},st.arg [] x=some v->v.ok H st.nx/\(st.toSt.arg true x).1/\(st.toSt.arg true x).2=v.toV:=fun h=>Ht hw h;obtain⟨dst,op,ty,pos,aft,gd⟩:=o;unfold vV;simp only;split
 ·rename_i t x y;split
  ·rename_i p v hp hv;obtain⟨a1,a2,a3⟩:=A hp;obtain⟨b1,b2,b3⟩:=A hv;have e:(nm y v).toV =qr y v.toV:=by unfold nm qr;grind [DV.toV,DC.toC]
   have hok:(nm y v).ok H st.nx:=by unfold nm;grind [DV.ok,DC.ok]
   refine(vW hw hok).mono fun an h=>?_;obtain⟨h1,h2,h3,h4⟩:=h;refine⟨h1,?_,?_,h4⟩
   all_goals grind [PL.ef,Cp.refl]
  ·exact Yl.no
 ·rename_i hns;split
  ·exact Yl.no
  ·rename_i d;split
   ·rename_i t;split
    ·rename_i cs hz;obtain⟨z1,z2⟩:=OZ hz;refine(Io hw (x:= .box cs) z2 (fun _=>by simp only [DC.ok])).mono fun an h=>?_;obtain⟨h1,h2,h3⟩:=h;refine⟨h1,?_,?_,h3⟩
     ·simp only [PL.ef,z1]
     ·simp only [PL.ef,z1];simp only [DE.toE,DC.toC]at h2;exact h2
    ·exact Yl.no
   ·rename_i t x;split
    ·rename_i v hv;split
     ·rename_i cs hc;obtain⟨b1,b2,b3⟩:=A hv;obtain⟨c1,c2⟩:=DV.adh hc;refine(Io hw (x:= .box cs) (c2 b1) (fun _=>by simp only [DC.ok])).mono fun an h=>?_;obtain⟨h1,h2,h3⟩:=h;refine⟨h1,?_,?_,h3⟩
      ·simp_all [PL.ef]
      ·simp only [PL.ef,b3,c1];simp only [DE.toE,DC.toC]at h2;exact h2
     ·exact Yl.no
    ·exact Yl.no
   ·split
    ·rename_i E n hs;refine Yl.Tf fun hg=>(Io hw (x:= .row E []) (by exact trivial) (fun _=>by simp only [DC.ok])).mono fun an h=>?_;have hg:=Nat.eq_of_beq_eq_true hg;subst hg;obtain⟨h1,h2,h3⟩:=h;refine⟨h1,?_,?_,h3⟩
     ·simp only [PL.ef,hs]
     ·simp only [PL.ef,hs];simp only [DE.toE,DC.toC,List.length_nil,List.flatMap_nil]at h2;exact h2
    ·exact Yl.no
   ·rename_i t len ps;refine(ZY hw).mono fun an h=>?_;obtain⟨h1,h2,h3,h4⟩:=h;exact⟨h1,by simpa only [PL.ef] using h2,by simpa only [PL.ef] using h3,h4⟩
   ·rename_i t l c;split
    ·rename_i k l' k' c' hl hc;obtain⟨a1,a2,a3⟩:=A hl;obtain⟨b1,b2,b3⟩:=A hc;simp only [DV.toV,DC.toC,Bm]at a3 b3;refine(dk hw (k:=k) (k':=k')).mono fun an h=>?_;obtain⟨h1,h2,h3,h4⟩:=h;refine⟨h1,?_,?_,h4⟩
     all_goals grind [PL.ef]
    ·exact Yl.no
   ·rename_i c;split
    ·rename_i u x t t' aev ab9 alC;split
     ·rename_i a b ha hb;obtain⟨a1,a2,a3⟩:=A ha;obtain⟨b1,b2,b3⟩:=A hb;refine Yl.Tf fun hg=>(rk hw).mono fun an h=>?_;have hg:=Nat.eq_of_beq_eq_true hg;obtain⟨h1,h2,h3,h4⟩:=h;refine⟨h1,?_,?_,h4⟩
      all_goals grind [PL.ef]
     ·exact Yl.no
    ·exact Yl.no
   ·exact Yl.no
end
end Go.PL
namespace Go.PL
open Go Go.RowKit
structure OE where
 dp:Bool
 E:TypeId
 n:Nat
 len:Nat
 cs:List C
def OE.ent (o:OE) (id:Ah):Aw:=⟨id,some (o.E,o.n,o.len),o.cs,true⟩
def CZ:List OE->List Ah->List Aw
 | o::os,i::is=>o.ent i::CZ os is
 | _,_=>[]
def KX:List OE->List Ah->Bool
 | [],[]=>true
 | o::os,i::is=>(Fh i==o.dp&& !C4 i)&&KX os is
 | _,_=>false
inductive PC where
 | c (x:C)
 | o (j:Nat)
def PC.toC (ids:List Ah):PC->C
 | .c x=>x
 | .o j=> .e_ (ids.getD j [])
inductive PP where
 | c (x:PC)
 | a (cs:List PC)
def PP.toV (ids:List Ah):PP->V
 | .c x=> .c (x.toC ids)
 | .a cs=> .agg (cs.map (PC.toC ids))
def OF (ids:List Ah):List PP->V
 | [p]=>p.toV ids
 | ps=> .tup (ps.map (PP.toV ids))
def PC.ok (m:Nat):PC->Bool
 | .c x=>x.pure
 | .o j=>Nat.blt j m
def PP.ok (m:Nat):PP->Bool
 | .c x=>x.ok m
 | .a cs=>cs.all (PC.ok m)
structure M8 (P:Program) (I:World->Prop) (f:FuncId) (args:List V) (outs:List OE) (ps:List PP):Prop where
 ent:ent P f=true
 pok:ps.all (PP.ok outs.length)=true
 run: ∀ (w:World) (vs:Array Value) (av:Nat->Prop),I w->(∀ b,av b->b<w.heap.size)->Aq w (im av) args vs.toList->
  Calls P f vs w (fun e w'=> ∃ v ids G',e= .returned v/\KX outs ids=true/\ids.Nodup/\Ab w' G' (OF ids ps) v/\
   (∀ e∈CZ outs ids,Bc w' G' e/\BC w' G' e/\Ao e.cs=true)/\(∀ i j b,G'.m_ i=some b->G'.m_ j=some b->i=j)/\
   (∀ i b,G'.m_ i=some b->w.heap.size<=b/\b<w'.heap.size)/\(∀ b,G'.wr b↔av b\/ ∃ i,G'.m_ i=some b)/\Below w.heap.size w w')
def reN (o i:Ah):Ah:=match i with
 | _::k::_=>BO k o
 | _=>o
def LL:List Ah->List Ah->Ah->Option Ah
 | n::ns,o::os,i=>if i=n then some o else if DF n i=true then some (reN o i)else LL ns os i
 | _,_,_=>none
def L6 (ns:List Ah) (i:Ah):Bool:=ns.any fun n=>i==n||DF n i
theorem Ae3 (o n:Ah) (k:Nat):reN o (BO k n)=BO k o:=rfl
theorem vY {ns os:List Ah} {i:Ah} (hl:ns.length=os.length) (h:L6 ns i=false):LL ns os i=none:=by
 induction ns generalizing os with
 | nil=>rfl
 | cons n ns ih=>
   cases os<;>simp_all [L6,LL]
theorem nB {ns os:List Ah} {i a:Ah} (h:LL ns os i=some a): ∃ (j:Nat) (n o:Ah),ns[j]? =some n/\os[j]? =some o/\(i=n/\a=o\/ ∃ k,i=BO k n/\a=BO k o):=by
 induction ns generalizing os with
 | nil=>simp [LL]at h
 | cons n ns ih=>
   cases os with
   | nil=>simp [LL]at h
   | cons o os=>
     simp only [LL]at h;split at h
     ·rename_i he;injection h with h;exact⟨0,n,o,rfl,rfl, .inl ⟨he,h.symm⟩⟩
     ·split at h
      ·rename_i he;obtain⟨k,rfl⟩:=tC he;injection h with h;exact⟨0,n,o,rfl,rfl, .inr ⟨k,rfl,h.symm⟩⟩
      ·obtain⟨j,n',o',h1,h2,h3⟩:=ih h;exact⟨j+1,n',o',h1,h2,h3⟩
theorem AbK {ns os:List Ah} {j:Nat} {n o:Ah} (hn:ns.Nodup) (hmk: ∀ n∈ns,C4 n=false) (h1:ns[j]? =some n) (h2:os[j]? =some o):LL ns os n=some o/\ ∀ k,LL ns os (BO k n)=some (BO k o):=by
 induction ns generalizing os j with
 | nil=>simp at h1
 | cons m ns ih=>
   cases os with
   | nil=>simp at h2
   | cons q os=>
     simp only [nodup_cons]at hn;cases j with
     | zero=>
       simp only [List.getElem?_cons_zero,injEq]at h1 h2;subst h1 h2;refine⟨by simp [LL],fun k=>?_⟩;simp only [LL];rw [if_neg (fun e=>by have:=hmk m (by simp);rw [<-e]at this;cases this),if_pos (by rw [IR];simp),Ae3]
     | succ j=>
       simp only [List.getElem?_cons_succ]at h1 h2;have hm:n∈ns:=(by grind);have Tj:n ≠ m:=(by grind);obtain⟨a,b⟩:=ih hn.2 (fun x hx=>hmk x (by simp [hx])) h1 h2;have hmn:=hmk n (by simp [hm]);refine⟨?_,fun k=>?_⟩
       ·simp only [LL];rw [if_neg Tj,if_neg (fun e=>by obtain⟨k,rfl⟩:=tC e;cases hmn)];exact a
       ·simp only [LL];rw [if_neg (fun e=>by have:=hmk m (by simp);rw [<-e]at this;cases this),if_neg (fun e=>by rw [IR]at e;exact Tj (by simpa using e))];exact b k
theorem Ae4 {α:Type} {l:List α} (h:l.Nodup) {i j:Nat} {x:α} (hi:l[i]? =some x) (hj:l[j]? =some x):i=j:=by grind [List.pairwise_iff_getElem]
theorem yA {ns os:List Ah} {i j a:Ah} (hn:ns.Nodup) (ho:os.Nodup) (hmo: ∀ o∈os,C4 o=false) (h1:LL ns os i=some a) (h2:LL ns os j=some a):i=j:=by
 obtain⟨p,n,o,a1,a2,a3⟩:=nB h1;obtain⟨q,n',o',b1,b2,b3⟩:=nB h2;have key:o=o'->p=q:=(by grind [Ae4]);have m1:=hmo o (mem_of_getElem? a2);have m2:=hmo o' (mem_of_getElem? b2);rcases a3 with ⟨rfl,rfl⟩ | ⟨k,rfl,rfl⟩<;>rcases b3 with ⟨rfl,e⟩ | ⟨k',rfl,e⟩
 ·grind
 ·rw [e]at m1;cases m1
 ·rw [<-e]at m2;cases m2
 grind [Sn]
theorem JC: ∀ {outs:List OE} {ids:List Ah},KX outs ids=true->ids.length=outs.length/\(∀ i∈ids,C4 i=false)/\ ∀ (j:Nat) (o:OE) (i:Ah),outs[j]? =some o->ids[j]? =some i->Fh i=o.dp
 | [],[],_=>(by grind)
 | [],_::_,h=>by simp [KX]at h
 | _::_,[],h=>by simp [KX]at h
 | o::os,i::is,h=>by simp only [KX,and_eq_true,beq_iff_eq,not_eq_true']at h;obtain⟨a,b,c⟩:=JC h.2;grind
theorem Vd: ∀ {outs:List OE} {ids:List Ah} {e:Aw},e∈CZ outs ids-> ∃ (j:Nat) (o:OE) (i:Ah),outs[j]? =some o/\ids[j]? =some i/\e=o.ent i
 | [],_,_,h=>by simp [CZ]at h
 | _::_,[],_,h=>by simp [CZ]at h
 | o::os,i::is,e,h=>by
   simp only [CZ,mem_cons]at h;rcases h with rfl | h
   ·exact⟨0,o,i,rfl,rfl,rfl⟩
   ·obtain⟨j,o',i',a,b,c⟩:=Vd h;exact⟨j+1,o',i',by grind,by grind,c⟩
theorem ZZ: ∀ {outs:List OE} {ids:List Ah} {j:Nat} {o:OE} {i:Ah},outs[j]? =some o->ids[j]? =some i->o.ent i∈CZ outs ids
 | [],_,_,_,_,h,_=>by simp at h
 | _::_,[],_,_,_,_,h=>by simp at h
 | o::os,i::is,0,o',i',h1,h2=>by grind [CZ]
 | o::os,i::is,j+1,o',i',h1,h2=>by simp only [CZ,mem_cons];exact .inr (ZZ (by simpa using h1) (by simpa using h2))
theorem gy: ∀ {outs:List OE} {ids:List Ah},ids.length=outs.length->(CZ outs ids).map (·.id)=ids
 | [],[],_=>rfl
 | [],_::_,h=>by simp at h
 | _::_,[],h=>by simp at h
 | o::os,i::is,h=>by simp only [CZ,map_cons,OE.ent,gy (outs:=os) (ids:=is) (by simpa using h)]
theorem Co.sub {G G':AG} {w:World} (h: ∀ b,b<w.heap.size->G'.wr b->G.wr b):Co G G' w w:=⟨le_refl _,fun _ _ _=>rfl,h,fun _ _ _ _=>Cg.same rfl⟩
theorem Ad1 {w:World} {G G':AG} {ids ns:List Ah} {m:Nat} (hk:Co G G' w w) (hl:ids.length=m) (ho: ∀ (j:Nat) (i n:Ah),ids[j]? =some i->ns[j]? =some n->G'.own n=G.own i) (hl2:ns.length=m) {p:PC} (hp:p.ok m=true) {v:Value} (h:Ad w G (p.toC ids) v):Ad w G' (p.toC ns) v:=by
 cases p with
 | c x=>exact Ad.mono hk x v (fun i hi=>absurd (show x.p_ i=true from hi) (by rw [Ic i x hp];simp)) h
 | o j=>
   grind [PC.ok,blt_eq,PC.toC,Ad]
theorem Ad2 {w:World} {G G':AG} {ids ns:List Ah} {m:Nat} (hk:Co G G' w w) (hl:ids.length=m) (ho: ∀ (j:Nat) (i n:Ah),ids[j]? =some i->ns[j]? =some n->G'.own n=G.own i) (hl2:ns.length=m): ∀ {ps:List PC} {vs:List Value},ps.all (PC.ok m)=true->Aj w G (ps.map (PC.toC ids)) vs->Aj w G' (ps.map (PC.toC ns)) vs
 | [],[],_,_=>by simp [Aj]
 | [],_::_,_,h=>by simp [Aj]at h
 | _::_,[],_,h=>by simp [Aj]at h
 | p::ps,v::vs,hp,h=>by simp only [all_cons,and_eq_true]at hp;simp only [map_cons,Aj]at h ⊢;exact⟨Ad1 hk hl ho hl2 hp.1 h.1,Ad2 hk hl ho hl2 hp.2 h.2⟩
theorem Ad3 {w:World} {G G':AG} {ids ns:List Ah} {m:Nat} (hk:Co G G' w w) (hl:ids.length=m) (ho: ∀ (j:Nat) (i n:Ah),ids[j]? =some i->ns[j]? =some n->G'.own n=G.own i) (hl2:ns.length=m) {p:PP} (hp:p.ok m=true) {v:Value} (h:Ab w G (p.toV ids) v):Ab w G' (p.toV ns) v:=by
 cases p with
 | c x=>simp only [PP.toV,Ab]at h ⊢;exact Ad1 hk hl ho hl2 hp h
 | a cs=>
   simp only [PP.toV,Ab]at h ⊢;obtain⟨arr,e,h⟩:=h;exact⟨arr,e,Ad2 hk hl ho hl2 hp h⟩
theorem rl {w:World} {G G':AG} {ids ns:List Ah} {m:Nat} (hk:Co G G' w w) (hl:ids.length=m) (ho: ∀ (j:Nat) (i n:Ah),ids[j]? =some i->ns[j]? =some n->G'.own n=G.own i) (hl2:ns.length=m): ∀ {ps:List PP} {vs:List Value},ps.all (PP.ok m)=true->Aq w G (ps.map (PP.toV ids)) vs->Aq w G' (ps.map (PP.toV ns)) vs
 | [],vs,_,h=>by simpa [Aq] using h
 | p::ps,vs,hp,h=>by simp only [all_cons,and_eq_true]at hp;simp only [map_cons,Aq]at h ⊢;obtain⟨v,r,e,h1,h2⟩:=h;exact⟨v,r,e,Ad3 hk hl ho hl2 hp.1 h1,rl hk hl ho hl2 hp.2 h2⟩
theorem Ae5 {w:World} {G G':AG} {ids ns:List Ah} {m:Nat} (hk:Co G G' w w) (hl:ids.length=m) (ho: ∀ (j:Nat) (i n:Ah),ids[j]? =some i->ns[j]? =some n->G'.own n=G.own i) (hl2:ns.length=m) {ps:List PP} (hp:ps.all (PP.ok m)=true) {v:Value} (h:Ab w G (OF ids ps) v):Ab w G' (OF ns ps) v:=by
 match ps,hp,h with
 | [p],hp,h=>
   simp only [all_cons,all_nil,Bool.and_true]at hp;exact Ad3 hk hl ho hl2 hp h
 | [],hp,h=>
   grind [OF,Ab,rl]
 | p::q::ps,hp,h=>
   grind [OF,Ab,rl]
theorem jz {w:World} {G G':AG} (hk:Co G G' w w) {i n:Ah} {r:TypeId×Nat×Nat} {cs:List C} (hp:Ao cs=true) (hb:G'.m_ n=G.m_ i) (ho:G'.own n=G.own i) (h:Bc w G ⟨i,some r,cs,true⟩):Bc w G' ⟨n,some r,cs,true⟩:=by
 obtain⟨E,m,len⟩:=r;unfold Bc at *;obtain⟨hl,v,h1,h2⟩:=h;refine⟨hl,v,by grind,?_⟩;rcases h2 with ⟨p,e1,e2,e3⟩ | ⟨b,cap,cur,e1,e2,e3,e4,e5,e6,e7⟩
 ·grind
 ·exact .inr ⟨b,cap,cur,e1,by grind,e3,e4,e5,e6,An.mono hk _ _ _ (fun i hi=>absurd (show BP i cs=true from hi) (by rw [AP i cs hp];simp)) (fun _=>rfl) e7⟩
end Go.PL
namespace Go.PL
open Go Go.RowKit
section
variable {F:Fr} {st:St} {a:Act} {w w':World} {G Gc:AG}
def Kn (F:Fr) (G Gc:AG) (ns ids:List Ah):AG where
 m_:=fun i=>match LL ns ids i with | some a=>Gc.m_ a | none=>G.m_ i
 own:=fun i=>match LL ns ids i with | some a=>Gc.own a | none=>G.own i
 wr:=fun x=>F.av x\/ ∃ i,(match LL ns ids i with | some a=>Gc.m_ a | none=>G.m_ i)=some x
theorem R.asF (h:R F st a w G) (hb:Below w.heap.size w w') {outs:List OE} {ids ns:List Ah} {av:Nat->Prop} (hav: ∀ b,G.wr b->av b) (ajF:KX outs ids=true) (hnd:ids.Nodup) (hns:KX outs ns=true) (hnn:ns.Nodup)
 (hE: ∀ e∈CZ outs ids,Bc w' Gc e/\BC w' Gc e/\Ao e.cs=true) (asf: ∀ i j b,Gc.m_ i=some b->Gc.m_ j=some b->i=j) (hfr: ∀ i b,Gc.m_ i=some b->w.heap.size<=b/\b<w'.heap.size) (hwr: ∀ b,Gc.wr b↔av b\/ ∃ i,Gc.m_ i=some b):
 R F (st.b_ (L6 ns) (CZ outs ns++(st.so.filter fun e=> !(L6 ns e.id)).map (Aw.b_ (L6 ns)))) a w' (Kn F G Gc ns ids)/\Co Gc (Kn F G Gc ns ids) w' w'/\
   ∀ (j:Nat) (i n:Ah),ids[j]? =some i->ns[j]? =some n->(Kn F G Gc ns ids).own n=Gc.own i:=by
 obtain⟨l1,m1,d1⟩:=JC ajF;obtain⟨l2,m2,d2⟩:=JC hns;have aCo: ∀ i,L6 ns i=false->LL ns ids i=none:=fun i hi=>vY (by omega) hi;have hin: ∀ (j:Nat) (i n:Ah),ids[j]? =some i->ns[j]? =some n->LL ns ids n=some i/\ ∀ k,LL ns ids (BO k n)=some (BO k i):=(by grind [AbK]);have sub: ∀ b,(Kn F G Gc ns ids).wr b->Gc.wr b:=fun b hw=>by
  rw [hwr];simp only [Kn]at hw;rcases hw with q | ⟨i,q⟩
  ·exact .inl (hav b ((h.wr b).2 (.inl q)))
  ·split at q
   ·grind
   ·exact .inl (hav b ((h.wr b).2 (.inr ⟨i,q⟩)))
 have hk:Co Gc (Kn F G Gc ns ids) w' w':=Co.sub (by grind);have t:aaT F (L6 ns) (fun _=>false) G (Kn F G Gc ns ids) w w':={
  agree:=(by simp_all [Kn])
  same:=fun i b _ hib=>hb.block b (h.lt i b hib)
  keeps:=⟨hb.size,fun b hb' _=>hb.block b hb',fun b hb' hw=>by simp only [Kn]at hw;rw [h.wr];grind,fun i b q1 _=>Cg.same (hb.block b (h.lt i b q1))⟩
  outer:=Ek hb
  ext:=fun b hb' _=>hb.block b (Nat.lt_of_lt_of_le hb' h.u_)
  wr:=fun b=>Iff.rfl
  inj:=fun i j b q1 q2=>by
   simp only [Kn]at q1 q2;split at q1<;>split at q2
   ·grind [yA]
   ·have a1:=hfr _ _ q1;have a2:=h.lt _ _ q2;omega
   ·have a1:=hfr _ _ q2;have a2:=h.lt _ _ q1;omega
   ·exact h.inj _ _ _ q1 q2
  lt:=fun i b q=>by
   simp only [Kn]at q;split at q
   ·grind
   ·exact Nat.lt_of_lt_of_le (h.lt _ _ q) hb.size
  new:=fun i b q=>by
   simp only [Kn]at q;split at q
   ·exact .inl (Nat.le_trans h.u_ (hfr _ _ q).1)
   ·exact h.new _ _ q}
 have aam: ∀ (j:Nat) (i n:Ah),ids[j]? =some i->ns[j]? =some n->(Kn F G Gc ns ids).own n=Gc.own i:=(by grind [Kn]);have abD: ∀ (j:Nat) (i n:Ah),ids[j]? =some i->ns[j]? =some n->(Kn F G Gc ns ids).m_ n=Gc.m_ i:=(by grind [Kn]);have new: ∀ e∈CZ outs ns,Bc w' (Kn F G Gc ns ids) e/\BC w' (Kn F G Gc ns ids) e/\Ao e.cs=true:=by
  intro e he;obtain⟨j,o,n,q1,q2,rfl⟩:=Vd he;have hj:j<ids.length:=by grind
  obtain⟨i,q3⟩: ∃ i,ids[j]? =some i:=(by grind);obtain⟨e1,e2,e3⟩:=hE _ (ZZ q1 q3);have hb1:=abD j i n q3 q2;have ho1:=aam j i n q3 q2;refine⟨jz hk e3 hb1 ho1 e1,⟨m2 n (mem_of_getElem? q2),fun hd=>⟨rfl,rfl,?_⟩⟩,e3⟩;have hdi:Fh i=true:=by rw [d1 j o i q1 q3, <-d2 j o n q1 q2];exact hd
  obtain⟨_,_,hI⟩:=e2.2 hdi;intro k E n' len cs hc;obtain⟨p1,p2,b,v,p3,p4,p5⟩:=hI k E n' len cs hc;have hm:=(hin j i n q3 q2).2 k;have hbm:(Kn F G Gc ns ids).m_ (BO k n)=Gc.m_ (BO k i):=by simp only [Kn,hm]
  have hom:(Kn F G Gc ns ids).own (BO k n)=Gc.own (BO k i):=by simp only [Kn,hm]
  exact⟨p1,jz hk p1 hbm hom p2,b,v,hb1.trans p3,p4,hom.trans p5⟩
 have hold: ∀ e∈(st.so.filter fun e=> !(L6 ns e.id)).map (Aw.b_ (L6 ns)), ∃ d∈st.so,L6 ns d.id=false/\e=d.b_ (L6 ns):=by grind
 have hdk: ∀ d∈st.so,L6 ns d.id=false->Fh d.id=true-> ∀ k,L6 ns (BO k d.id)=false/\(fun _=>false:Ah->Bool) (BO k d.id)=false:=by
  intro d hd hp hD k;refine⟨?_,rfl⟩;cases hq:L6 ns (BO k d.id)with
  | false=>rfl
  | true=>
    obtain⟨n,hn,hq⟩:=any_eq_true.1 hq;simp only [or_eq_true,beq_iff_eq]at hq;rcases hq with hq | hq
    ·have:=m2 n hn;rw [<-hq]at this;cases this
    simp_all [IR,L6]
 refine⟨t.af1 h _ (fun e he=>?_) (fun e he=>?_) (fun e he=>?_) ?_,hk,aam⟩
 ·rcases mem_append.1 he with he | he
  ·grind
  ·obtain⟨d,h1,h2,rfl⟩:=hold e he;exact t.ent h h1 h2 rfl
 ·rcases mem_append.1 he with he | he
  ·grind
  ·obtain⟨d,h1,h2,rfl⟩:=hold e he;exact t.deep h h1 h2 rfl (hdk d h1 h2)
 ·rcases mem_append.1 he with he | he
  ·grind
  ·obtain⟨d,h1,h2,rfl⟩:=hold e he;exact Rj (h.x_ d h1)
 ·rw [map_append,gy l2,map_map];have e1:(fun e:Aw=>e.id) ∘ Aw.b_ (L6 ns)=fun e=>e.id:=by grind [Aw.t_]
  rw [e1];refine List.nodup_append.2 ⟨hnn,List.Sublist.nodup (by grind [List.filter_sublist]) h.nodup,fun x hx y hy=>?_⟩;obtain⟨d,hd,rfl⟩:=mem_map.1 hy;grind [L6]
theorem DJ.avO {P:Program} {I:World->Prop} {o:Oper} {K:St->Prop} {f:FuncId} {xs:List Operand} {outs:List OE} {ps:List PP} (d:Nat)
 (hk:Ck o.op= .call f xs) (hd:o.dst=some d) (ha:(st.args true xs).1) (hp:Ci ((st.args true xs).2.map (BF st))=true) (auK:C2 (st.args true xs).2=[])
 (hc:M8 P I f ((st.args true xs).2.map (BF st)) outs ps) {ns:List Ah} (hns:KX outs ns=true) (hnn:ns.Nodup)
 (hK:K ((st.b_ (L6 ns) (CZ outs ns++(st.so.filter fun e=> !(L6 ns e.id)).map (Aw.b_ (L6 ns)))).put (some d) (OF ns ps))):DJ P I o st K:=by
 intro F a w G Q0 hI hR;have hI':I w:=hI▸hR.inv w hR.u_ hR.ext;have hr:=Sz (a:=a) hk hc.ent w;unfold Oper.wp Oper.upon;rw [hr];have hx:Aq w G (st.args true xs).2 (xs.map a.eval):=hR.args rfl ha;have h3:=Hm hR (av:=fun b=>G.wr b) (fun _ _ q=>q) (by grind) hp hx;refine(hc.run w (xs.map a.eval).toArray (fun b=>G.wr b) hI' (fun b hb=>hR.ajk hb) (by grind)).mono fun e w' ⟨v,ids,Gc,he,ajF,hnd,hv,hE,asf,hfr,hwr,hb⟩=>?_;subst he;obtain⟨g1,g2,g3⟩:=hR.asF hb (fun _ q=>q) ajF hnd hns hnn hE asf hfr hwr;refine⟨_,Kn F G Gc ns ids,hK,?_⟩;rw [hd];exact R.put (d:=some d) g1 (Ae5 g2 (JC ajF).1 g3 (JC hns).1 hc.pok hv)
def Ahm (P:Program) (st:St) (rs:List ResultVar) (outs:List OE) (ps:List PP):Prop:=
 ∃ ids,KX outs ids=true/\ids.Nodup/\(CA P st rs).1/\(∀ (w:World) (G:AG) (v:Value),Ab w G (CA P st rs).2 v->Ab w G (OF ids ps) v)/\ ∀ e∈CZ outs ids,e∈st.so
theorem M8.of {P:Program} {I:World->Prop} (hst:J8 I) {f:FuncId} {fn:Func} {c:Code} {args:List V} {outs:List OE} {ps:List PP} (abr:PL.ent P f=true) (hf:P.funcs[f]? =some fn) (hb:fn.body=some c) (ay5:ps.all (PP.ok outs.length)=true)
 (h: ∀ F:Fr,F.I=I->Ae P F c (St.start args fn.ntmps) (fun e an=>(e= .normal \/e= .ret)/\Ahm P an fn.results.toList outs ps)):M8 P I f args outs ps:=by
 refine⟨abr,ay5,fun w vs av hI hav ab9=>calls_of_wp hf hb ?_⟩;have hR:=R.start hst hI hav ab9 fn.ntmps;refine Code.wp_mono (fun e a' w' ⟨an,G',⟨he,q⟩,hR'⟩=>?_) (h ⟨w,av,fun _=>False,I,[]⟩ rfl _ _ _ hR);obtain⟨ids,q1,q2,q3,q4,q5⟩:=q;obtain⟨v,r1,r2⟩:=MZ hR' (fn:=fn) q3;have fin:a'.defers=[]/\ ∃ v,(results fn a'.tmps).run P w'= .ok v w'/\(fun(e:Ending) w''=> ∃ v ids G',e= .returned v/\KX outs ids=true/\ids.Nodup/\Ab w'' G' (OF ids ps) v/\
  (∀ e∈CZ outs ids,Bc w'' G' e/\BC w'' G' e/\Ao e.cs=true)/\(∀ i j b,G'.m_ i=some b->G'.m_ j=some b->i=j)/\
  (∀ i b,G'.m_ i=some b->w.heap.size<=b/\b<w''.heap.size)/\(∀ b,G'.wr b↔av b\/ ∃ i,G'.m_ i=some b)/\Below w.heap.size w w'') (.returned v) w':=by
  refine⟨hR'.dfr,v,r1,v,ids,G',rfl,q1,q2,q4 _ _ _ r2,fun e he'=>⟨hR'.store e (q5 e he'),hR'.deep e (q5 e he'),?_⟩,hR'.inj,fun i b hib=>⟨?_,hR'.lt i b hib⟩,hR'.wr,hR'.below (fun _ hx=>hx)⟩
  ·refine hR'.x_ e (q5 e he') ?_;obtain⟨j,o,i,_,_,rfl⟩:=Vd he';rfl
  ·rcases hR'.new i b hib with q | q
   all_goals grind
 rcases he with rfl | rfl<;>exact fin
end
end Go.PL
set_option linter.all false
namespace Go.PL
open Go Go.RowKit
def OE.frz (o:OE):List C:=match o.dp with
 | true=>o.cs.map QB
 | false=>o.cs
def PC.frz (outs:List OE):PC->C
 | .c x=>x
 | .o j=>match outs[j]? with
   | some q=> .sl q.len q.frz
   | none=> .any
def PP.frz (outs:List OE):PP->V
 | .c x=> .c (x.frz outs)
 | .a cs=> .agg (cs.map (PC.frz outs))
def vZ (outs:List OE):List PP->V
 | [p]=>p.frz outs
 | ps=> .tup (ps.map (PP.frz outs))
section
variable {w:World} {G:AG} {av:Nat->Prop}
theorem gz: ∀ {cs:List C} {b o:Nat},An w G cs b o-> ∀ k c,cs[k]? =some c-> ∃ v,w.cell? ⟨b,o+k,none⟩=some v/\Ad w G c v
 | [],_,_,_,k,c,h=>by simp at h
 | d::cs,b,o,hr,k,c,h=>by
   simp only [An]at hr;cases k with
   | zero=>simp only [List.getElem?_cons_zero,injEq]at h;subst h;simpa using hr.1
   | succ k=>
     have:=gz hr.2 k c (by simpa using h);rw [show o+(k+1)=o+1+k by omega];exact this
theorem Z0 (ag1: ∀ b,b<w.heap.size->av b->G.wr b) (hb: ∀ i b,G.m_ i=some b-> ¬av b) (hlt: ∀ i b,G.m_ i=some b->b<w.heap.size) {i:Ah} {E:TypeId} {n len:Nat} {cs ds:List C} {v:Value} (hE:Bc w G ⟨i,some (E,n,len),cs,true⟩) (hv:G.own i=some v)
 (hd:Ao ds=true) (hl:ds.length=cs.length) (z_: ∀ b,G.m_ i=some b->An w G cs b 0->An w (im av) ds b 0):Ad w (im av) (.sl len ds) v:=by
 unfold Bc at hE;obtain⟨h0,v',h1,h2⟩:=hE;rw [hv]at h1;injection h1 with h1;subst h1;simp only [Ad];refine⟨hd,?_⟩;rcases h2 with ⟨p,rfl,rfl,_⟩ | ⟨b,cap,cur,rfl,e2,e3,e4,e5,e6,e7⟩
 ·grind
 ·refine⟨_,cap,rfl,e4,e5,(by grind [List.length_eq_zero_iff]), .inr ⟨b,0,rfl,hb i b e2,hlt i b e2,z_ b e2 e7⟩⟩
theorem Ahn (ag1: ∀ b,b<w.heap.size->av b->G.wr b) (hb: ∀ i b,G.m_ i=some b-> ¬av b) (hlt: ∀ i b,G.m_ i=some b->b<w.heap.size) {o:OE} {i:Ah} {v:Value} (hE:Bc w G (o.ent i)) (hD:BC w G (o.ent i)) (hdp:Fh i=o.dp) (hp:Ao o.cs=true) (hv:G.own i=some v):Ad w (im av) (.sl o.len o.frz) v:=by
 have hk:Co G (im av) w w:=Co.sub ag1;have mono: ∀ c u,c.pure=true->Ad w G c u->Ad w (im av) c u:=fun c u hc h=>Ad.mono hk c u (fun i hi=>absurd (show c.p_ i=true from hi) (by rw [Ic i c hc];simp)) h;unfold OE.frz;cases hq:o.dp with
 | false=>
   refine Z0 ag1 hb hlt hE hv hp rfl fun b _ hr=>?_;exact An.mono hk _ _ _ (fun i hi=>absurd (show BP i o.cs=true from hi) (by rw [AP i o.cs hp];simp)) (fun _=>rfl) hr
 | true=>
   obtain⟨_,_,hI⟩:=hD.2 (by show Fh i=true;rw [hdp,hq]);have pf:Ao (o.cs.map QB)=true:=by rw [Cf,all_eq_true]at hp ⊢;intro c hc;obtain⟨d,hd,rfl⟩:=mem_map.1 hc;have:=hp d hd;cases d<;>first | exact this | rfl
   refine Z0 ag1 hb hlt hE hv pf (by simp) fun b hbi hr=>Abo fun k c hc=>?_;obtain⟨u,u1,u2⟩:=gz hr k c hc;refine⟨u,u1,?_⟩;by_cases azo: ∃ E n len cs,c= .isl E n len cs
   ·obtain⟨E,n,len,cs,rfl⟩:=azo;obtain⟨k1,k2,b',u',k3,k4,k5⟩:=hI k E n len cs hc;have k3:G.m_ i=some b':=k3;rw [hbi]at k3;injection k3 with k3;subst k3;rw [zero_add]at u1;rw [u1]at k4;injection k4 with k4;subst k4;simp only [QB];exact Z0 ag1 hb hlt k2 k5 k1 rfl fun b _ hr=>An.mono hk _ _ _ (fun i hi=>absurd (show BP i cs=true from hi) (by rw [AP i cs k1];simp)) (fun _=>rfl) hr
   ·have e:QB c=c:=by cases c<;>first | rfl | grind
    grind [Cf]
end
theorem M8.flat {P:Program} {I:World->Prop} {f:FuncId} {args:List V} {outs:List OE} {ps:List PP} (h:M8 P I f args outs ps) (ai6:(vZ outs ps).pure =true):Cd P I f args (· =vZ outs ps):=by
 refine⟨h.ent,fun w vs av hI hav hr=>(h.run w vs av hI hav hr).mono ?_⟩;rintro e w' ⟨v,ids,G,he,hns,hnd,hv,hE,asf,hfr,hwr,hb⟩;refine⟨v,_,he,rfl,ai6,?_,hb⟩;obtain⟨l1,m1,d1⟩:=JC hns;have ag1: ∀ b,b<w'.heap.size->av b->G.wr b:=(by grind);have hbn: ∀ i b,G.m_ i=some b-> ¬av b:=(by grind);have hlt: ∀ i b,G.m_ i=some b->b<w'.heap.size:=(by grind);have hk:Co G (im av) w' w':=Co.sub ag1;have pc: ∀ (p:PC) (u:Value),p.ok outs.length=true->Ad w' G (p.toC ids) u->Ad w' (im av) (p.frz outs) u:=by
  intro p u hp hu;cases p with
  | c x=>exact Ad.mono hk x u (fun i hi=>absurd (show x.p_ i=true from hi) (by rw [Ic i x hp];simp)) hu
  | o j=>
    simp only [PC.ok,blt_eq]at hp;simp only [PC.toC,Ad]at hu;have e1:outs[j]? =some outs[j]:=(by grind);have e2:ids[j]? =some (ids.getD j []):=by grind
    simp only [PC.frz,e1];obtain⟨q1,q2,q3⟩:=hE _ (ZZ e1 e2);exact Ahn ag1 hbn hlt q1 q2 (d1 j _ _ e1 e2) q3 hu.1
 have pl: ∀ (cs:List PC) (us:List Value),cs.all (PC.ok outs.length)=true->Aj w' G (cs.map (PC.toC ids)) us->Aj w' (im av) (cs.map (PC.frz outs)) us:=by
  intro cs;induction cs with
  | nil=>intro us _ hu;cases us<;>simpa [Aj] using hu
  | cons c cs ih=>
    intro us hc hu;cases us<;>simp_all [Aj]
 have pp: ∀ (p:PP) (u:Value),p.ok outs.length=true->Ab w' G (p.toV ids) u->Ab w' (im av) (p.frz outs) u:=by
  intro p u hp hu;cases p with
  | c x=>simp only [PP.toV,PP.frz,Ab]at hu ⊢;exact pc x u hp hu
  | a cs=>
    simp only [PP.toV,PP.frz,Ab]at hu ⊢;obtain⟨arr,e,hu⟩:=hu;exact⟨arr,e,pl cs _ hp hu⟩
 have pps: ∀ (l:List PP) (us:List Value),l.all (PP.ok outs.length)=true->Aq w' G (l.map (PP.toV ids)) us->Aq w' (im av) (l.map (PP.frz outs)) us:=by
  intro l;induction l with
  | nil=>grind [Aq]
  | cons p l ih=>
    intro us hp hu;simp only [all_cons,and_eq_true]at hp;grind [Aq]
 have hok:=h.pok
 match ps,hok,hv with
 | [p],hok,hv=>
   simp only [all_cons,all_nil,Bool.and_true]at hok;exact pp p v hok hv
 | [],hok,hv=>
   grind [OF,vZ,Ab]
 | p::q::l,hok,hv=>
   grind [OF,vZ,Ab]
end Go.PL
set_option linter.all false
namespace Go.PL
open Go Go.RowKit
mutual
theorem gA {p q:Ah->Bool} (h: ∀ i,q i=true->p i=true): ∀ c:C,c.f_ p=false->c.f_ q=false
 | .e_ i,k=>by grind [C.f_]
 | .ptr i _,k=>by grind [C.f_]
 | .rsl i _ _ _,k=>by grind [C.f_]
 | .bsl i _ _,k=>by grind [C.f_]
 | .bld i _,k=>by grind [C.f_]
 | .agA i,k=>by grind [C.f_]
 | .clo _ cs,k=>by simp only [C.f_]at k ⊢;exact FR h cs k
 | .bmv _ cs,k=>by simp only [C.f_]at k ⊢;exact FR h cs k
 | .int ..,_=>rfl
 | .bool _,_=>rfl
 | .str _,_=>rfl
 | .sl ..,_=>rfl
 | .abQ ..,_=>rfl
 | .acu,_=>rfl
 | .aak,_=>rfl
 | .s_,_=>rfl
 | .fn _,_=>rfl
 | .held,_=>rfl
 | .any,_=>rfl
 | .agK ..,_=>rfl
 | .mp _,_=>rfl
 | .isl ..,_=>rfl
theorem FR {p q:Ah->Bool} (h: ∀ i,q i=true->p i=true): ∀ cs:List C,CJ p cs=false->CJ q cs=false
 | [],_=>rfl
 | c::cs,k=>by simp only [CJ,or_eq_false_iff]at k ⊢;exact⟨gA h c k.1,FR h cs k.2⟩
end
mutual
theorem FS {p q:Ah->Bool} (h: ∀ i,q i=true->p i=true): ∀ v:V,v.f_ p=false->v.f_ q=false
 | .c x,k=>by grind [V.f_,gA]
 | .agg cs,k=>by grind [V.f_,FR]
 | .tup vs,k=>by simp only [V.f_]at k ⊢;exact W6 h vs k
 | .g _ v,k=>by simp only [V.f_]at k ⊢;exact FS h v k
 | .undef,_=>by simp only [V.f_]
theorem W6 {p q:Ah->Bool} (h: ∀ i,q i=true->p i=true): ∀ vs:List V,OS p vs=false->OS q vs=false
 | [],_=>by simp only [OS]
 | v::vs,k=>by simp only [OS,or_eq_false_iff]at k ⊢;exact⟨FS h v k.1,W6 h vs k.2⟩
end
structure AR where
 k:Nat
 r:Ah
 E:TypeId
 n:Nat
 len:Nat
 cs:List C
def AR.ent (x:AR):Aw:=⟨x.r,some (x.E,x.n,x.len),x.cs,true⟩
def I8 (l:List C) (rs:List AR):List C:=rs.foldl (fun l x=>l.set x.k (.isl x.E x.n x.len x.cs)) l
structure gB (p:Ah->Bool) (id:Ah) (ns:List Ah) (new:Aw) (A B:St):Prop where
 len:B.tm.length=A.tm.length
 tm: ∀ i,B.tm.getD i .undef = .undef \/(B.tm.getD i .undef =A.tm.getD i .undef /\(A.tm.getD i .undef).f_ p=false)
 aok:B.gh.length=A.gh.length
 gh: ∀ i,B.gh.getD i .undef = .undef \/(B.gh.getD i .undef =A.gh.getD i .undef /\(A.gh.getD i .undef).f_ p=false)
 so: ∀ x∈B.so,x=new\/x∈A.so/\x.id ≠ id/\x.id∉ns/\(x.pu=true\/CJ p x.cs=false)
 nd:(B.so.map (·.id)).Nodup
 pre:B.pre=A.pre
section
variable {F:Fr} {a:Act} {w:World}
theorem R.ahF {id:Ah} {b:Nat} {p:Ah->Bool}: ∀ (rs:List AR) {st:St} {G:AG} {e:Aw},R F st a w G->st.IN id=some e->G.m_ id=some b->
 (∀ x∈rs,st.look x.r=some x.ent/\x.k<e.cs.length/\(∀ i,pD x.r id i=true->p i=true)/\ ∃ v,w.cell? ⟨b,x.k,none⟩=some v/\G.own x.r=some v)->(rs.map (·.r)).Nodup ->
 ∀ B:St,gB p id (rs.map (·.r)) ⟨id,e.row,I8 e.cs rs,true⟩ st B-> ∃ G',R F B a w G'
 | [],st,G,e,h,hl,hb,_,_,B,hB=>by
   obtain⟨hm,hid,_,_,hpu,_⟩:=h.aa3 hl;refine⟨G,h.less ⟨hB.len,fun i=>(hB.tm i).imp (fun q=>q) (fun q=>q.1),fun x hx=>?_,fun _=>hB.nd,⟨hB.aok,fun i=>(hB.gh i).imp (fun q=>q) (fun q=>q.1)⟩,hB.pre⟩⟩;rcases hB.so x hx with rfl | ⟨q,_⟩
   ·have:(⟨id,e.row,I8 e.cs [],true⟩:Aw)=e:=by obtain⟨i,r,cs,pu⟩:=e;simp only at hid hpu;subst hid hpu;rfl
    grind
   ·exact q
 | x::rs,st,G,e,h,hl,hb,hx,hnd,B,hB=>by
   simp only [map_cons,nodup_cons]at hnd;obtain⟨x1,x2,x3,v,x4,x5⟩:=hx x (by simp);obtain⟨hm,hid,hd,hmk,hpu,_⟩:=h.aa3 hl;obtain⟨hmr,ag3⟩:=Bj x1;have alG:=FG x1;have aki:C4 x.r=false:=by rw [<-ag3];exact(h.deep _ hmr).1
   have akf:x.r ≠ id:=(by grind);obtain⟨G1,g1,g2,g3,g4⟩:=h.amo hl x1 rfl rfl hb x4 x5 x2;have akj: ∀ d∈st.so,d.id ≠ x.r->d.id ≠ id->(d.pu=true\/CJ p d.cs=false)->d∈((st.so.filter (fun d=>d.id != x.r)).map (Aw.b_ (pD x.r id))).map (Tl id e.row (e.cs.set x.k (.isl x.E x.n x.len x.cs))):=by
    intro d hd' q1 q2 q3;refine mem_map.2 ⟨d,mem_map.2 ⟨d,(by grind),?_⟩,Eb q2⟩;obtain⟨i,r,cs,pu⟩:=d;cases pu with
    | true=>rfl
    | false=>
      rcases q3 with q3 | q3
      ·cases q3
      ·have:=FR x3 cs q3;simp only [Aw.b_,Aw.mk.injEq,true_and,and_true];have key: ∀ l:List C,CJ (pD x.r id) l=false->l.map (Cr (pD x.r id))=l:=by intro l;induction l<;>simp_all [CJ,Cr]
       grind
   have hL1:(st.b_ (pD x.r id) (((st.so.filter (fun d=>d.id != x.r)).map (Aw.b_ (pD x.r id))).map (Tl id e.row (e.cs.set x.k (.isl x.E x.n x.len x.cs))))).IN id=some ⟨id,e.row,e.cs.set x.k (.isl x.E x.n x.len x.cs),true⟩:=by
    refine g1.I_ ?_ rfl hd;refine mem_map.2 ⟨e,mem_map.2 ⟨e,(by grind),?_⟩,?_⟩
    ·obtain⟨i,r,cs,pu⟩:=e;simp only at hpu;subst hpu;rfl
    ·rw [Ec hid,hid,hpu];rfl
   refine R.ahF (p:=p) rs g1 hL1 (g3.trans hb) (fun y hy=>?_) hnd.2 B ?_
   ·obtain⟨y1,y2,y3,v',y4,y5⟩:=hx y (by simp [hy]);obtain⟨hmy,azq⟩:=Bj y1;have hyr:y.r ≠ x.r:=(by grind);have hyd:=FG y1;have ayS:y.r ≠ id:=(by grind);refine⟨g1.ad8 (akj _ hmy hyr ayS (.inl rfl)) rfl hyd rfl,by grind,y3,v',y4,?_⟩;have hpf:pD x.r id y.r=false:=by
     have aGU:C4 y.r=false:=by rw [<-azq];exact(h.deep _ hmy).1
     grind [pD,Fp]
    grind
   ·refine⟨by simp [St.b_,hB.len],fun i=>?_,by simp [St.b_,hB.aok],fun i=>?_,fun z hz=>?_,hB.nd,hB.pre⟩
    ·rcases hB.tm i with q | ⟨q1,q2⟩
     ·exact .inl q
     ·right;simp only [St.b_];rw [F4 (by simp [BD,V.f_])];have:=FS x3 _ q2;rw [show BD (pD x.r id) (st.tm.getD i .undef)=st.tm.getD i .undef from if_neg (by rw [this];exact Bool.false_ne_true)];grind
    ·rcases hB.gh i with q | ⟨q1,q2⟩
     ·exact .inl q
     ·right;simp only [St.b_];have e1:(st.gh.map (BD (pD x.r id))).getD i .undef =BD (pD x.r id) (st.gh.getD i .undef):=by grind [BD]
      have:=FS x3 _ q2;rw [e1,show BD (pD x.r id) (st.gh.getD i .undef)=st.gh.getD i .undef from if_neg (by rw [this];exact Bool.false_ne_true)];grind
    ·rcases hB.so z hz with q | ⟨q1,q2,q3,q4⟩
     ·grind [I8]
     ·right;simp only [map_cons,mem_cons,not_or]at q3;exact⟨akj z q1 q3.1 q2 q4,q2,q3.2,q4⟩
end
end Go.PL
namespace Go.PL
open Go Go.RowKit
def O5:Op->Bool
 | .move _=>true
 | .nilCheck _=>true
 | .fieldAddr .. =>true
 | .indexAddr .. =>true
 | .unOp .. =>true
 | .extract .. =>true
 | _=>false
theorem wc {P:Program} {F:Fr} {st:St} {a:Act} {w:World} {G:AG} (h:R F st a w G) {g:Bool} (hg:g=true) {o:Oper} (hA:O5 o.op=true) (hs:(rd P st g o.op).1):
 ∃ v,Ab w G (rd P st g o.op).2 v/\ ∀ w',(execOp a.eval o).run P w'= .ok (.value v) w':=by
 cases ho:o.op<;>simp only [rd,ho,M_]at hs ⊢ <;>try (first | exact hs.elim | (rw [ho]at hA;cases hA;done))
 case move x=>exact⟨_,h.arg hg hs,fun w'=>by simp [execOp,ho]⟩
 case nilCheck x=>
  obtain⟨h1,h2⟩:=hs;have hx:=h.arg hg h1;unfold dg at h2 ⊢;split at h2
  ·rename_i id off e;rw [e]at hx;simp only [Ab,Ad]at hx ⊢;obtain⟨b,hb,hv⟩:=hx;exact⟨_,⟨b,hb,rfl⟩,fun w'=>by simp [execOp,ho,hv]⟩
  ·rename_i cs off e;rw [e]at hx;simp only [Ab,Ad]at hx ⊢;obtain⟨hp,b,o',hv,k1⟩:=hx;exact⟨_,⟨hp,b,o',rfl,k1⟩,fun w'=>by simp [execOp,ho,hv]⟩
  ·rename_i f e;rw [e]at hx;simp only [Ab,Ad]at hx ⊢;exact⟨_,rfl,fun w'=>by simp [execOp,ho,hx]⟩
  ·rename_i f cs e;rw [e]at hx;simp only [Ab,Ad]at hx ⊢;obtain⟨arr,hv,hr⟩:=hx;exact⟨_,⟨arr,rfl,hr⟩,fun w'=>by simp [execOp,ho,hv]⟩
  ·rename_i f cs e;rw [e]at hx;simp only [Ab,Ad]at hx ⊢;obtain⟨arr,hv,hr⟩:=hx;exact⟨_,⟨arr,rfl,hr⟩,fun w'=>by simp [execOp,ho,hv]⟩
  grind
 case unOp op t x=>
  obtain⟨v,q1,q2⟩:=ft (P:=P) (h.arg hg hs.1) hs.2;simp_all [execOp]
 case extract x i=>
  obtain⟨h1,h2⟩:=hs;have hx:=h.arg hg h1;unfold qq at h2 ⊢;split at h2
  ·rename_i vs e;rw [e]at hx;simp only [Ab]at hx;obtain⟨arr,hv,hr⟩:=hx;obtain⟨v,q1,q2⟩:=Jv hr i h2;simp_all [execOp,Instr.extract]
  grind
 case fieldAddr s x f=>
  obtain⟨v,q1,q2⟩:=Ma (P:=P) (h.arg hg hs.1) hs.2;simp_all [execOp]
 case indexAddr t x i=>
  obtain⟨v,q1,q2⟩:=Mb (P:=P) h (h.arg hg hs.1) (h.arg hg hs.2.1) hs.2.2;simp_all [execOp]
theorem rm {P:Program} {F:Fr} {st:St} {a:Act} {w:World} {G:AG} (h:R F st a w G) {g:Bool} (hg:g=true) {o:Oper} (hA:O5 o.op=true) (hs:(DZ P st g o.op).1):
 ∃ v,Ab w G (DZ P st g o.op).2 v/\ ∀ w',(execOp a.eval o).run P w'= .ok (.value v) w':=by
 have e:DZ P st g o.op=rd P st g o.op:=by
  cases ho:o.op<;>first
   | rfl
   | (rw [ho]at hA;cases hA)
 grind [wc]
def DO (o:Oper):Nat:=match o.guard,o.dst with
 | none,some _=>match O5 o.op with
   | true=>2
   | false=>match o.op with
     | .load .. =>1
     | .slice .. =>1
     | _=>0
 | _,_=>0
def O6 (ops:Array Oper) (i:Nat):Nat:=match ops[i]? with
 | some o=>DO o
 | none=>0
def wd (P:Program) (z:Prop) (o:Oper) (a:Act) (w:World):Prop:=
 ∀ d,o.dst=some d-> ∃ u,(z\/u=a.tmps.getD d Go.undef)/\ ∀ w',(DO o=2\/C1 w w')->(execOp a.eval o).run P w'= .ok (.value u) w'
def Frc (ops:Array Oper) (pr:List (List Nat)) (i:Nat) (L:Array Bool):Prop:= ∃ k,L.getD k false=true/\O6 ops k=0/\i∈pr.getD k []
def QE (ops:Array Oper) (lz:List Nat):Bool:=lz.all fun p=>match ops[p]? with
 | some o=>Nat.beq (DO o) 1&&match o.dst with
   | some d=>(List.range ops.size).all fun k=>Nat.beq k p||match ops[k]? with
     | some ok=>(Nat.beq (DO ok) 0|| !(ok.looksAt ops).contains d)&&match ok.dst with
       | some e=> !Nat.beq e d
       | none=>true
     | none=>true
   | none=>false
 | none=>false
def db (P:Program) (ops:Array Oper) (pr:List (List Nat)) (lz:List Nat) (L:Array Bool) (a:Act) (w:World):Prop:=
 ∀ i o,ops[i]? =some o->DO o ≠ 0->L.getD i false=true-> ¬Frc ops pr i L->wd P (i∈lz) o a w
def Up1 (P:Program) (ops:Array Oper) (pr:List (List Nat)) (lz:List Nat) (L:Array Bool) (w:World) (a a':Act):Prop:=
 ∃ p o d u,p∈lz/\ops[p]? =some o/\o.dst=some d/\L.getD p false=true/\ ¬Frc ops pr p L/\(execOp a.eval o).run P w= .ok (.value u) w/\a'=a.put (some d) u
inductive Ups (P:Program) (ops:Array Oper) (pr:List (List Nat)) (lz:List Nat) (L:Array Bool) (w:World) (a:Act):Act->Prop
 | refl:Ups P ops pr lz L w a a
 | step {b c:Act}:Ups P ops pr lz L w a b->Up1 P ops pr lz L w b c->Ups P ops pr lz L w a c
def D7 (P:Program) (ops:Array Oper) (Q:Exit->Act->World->Prop) (pr:List (List Nat)) (lz:List Nat):Nat->Array Bool->Act->World->Prop
 | 0,L,a,w=>Region.ready .any ops L=[]/\Q .normal a w
 | fuel+1,L,a,w=>(Region.ready .any ops L=[]->Q .normal a w)/\
   ∀ i∈Region.ready .any ops L,wpOp P ops Q i (fun a' w'=> ∀ a'',Ups P ops pr lz (L.setIfInBounds i true) w' a' a''->db P ops pr lz (L.setIfInBounds i true) a'' w'/\D7 P ops Q pr lz fuel (L.setIfInBounds i true) a'' w') a w
def Ve (ops:Array Oper) (pr:List (List Nat)):Bool:=Region.noSelect ops&&(jt ops pr&&(List.range ops.size).all fun p=>match ops[p]? with
 | none=>true
 | some o=>match DO o,o.dst with
   | 0,_=>true
   | _,none=>false
   | _,some d=> !(o.looksAt ops).contains d&&(List.range ops.size).all fun k=>Nat.beq k p||match ops[k]? with
     | none=>true
     | some ok=>(Ke (pr.getD p []) k||((Nat.beq (DO ok) 0&&Ke (pr.getD k []) p)||match ok.dst with
      | some e=> !(o.looksAt ops).contains e&& !Nat.beq e d
      | none=>true))&&(Ke (pr.getD k []) p||(Ke (pr.getD p []) k||o.apart ops ok)))
section
variable {P:Program} {ops:Array Oper} {Q:Exit->Act->World->Prop} {pr:List (List Nat)} {lz:List Nat}
theorem Z1: ∀ (fuel:Nat) (L:Array Bool) (a:Act) (w:World),D7 P ops Q pr lz fuel L a w->wpAny P .any ops Q fuel L a w
 | 0,_,_,_,h=>h
 | fuel+1,_,_,_,h=>⟨h.1,fun i hi=>wpOp_mono (fun a' w' h'=>Z1 fuel _ a' w' (h' a' .refl).2) (h.2 i hi)⟩
theorem Mh {o:Oper} (h:DO o ≠ 0):o.guard=none/\ ∃ d,o.dst=some d:=by unfold DO at h;grind
theorem Hv (h:Ve ops pr=true):Region.noSelect ops=true/\jt ops pr=true/\ ∀ p o,ops[p]? =some o->DO o ≠ 0-> ∀ d,o.dst=some d->d∉o.looksAt ops/\ ∀ k ok,ops[k]? =some ok->k ≠ p->
 (k∈pr.getD p []\/(DO ok=0/\p∈pr.getD k [])\/ ∀ e,ok.dst=some e->e∉o.looksAt ops/\e ≠ d)/\(p∈pr.getD k []\/k∈pr.getD p []\/o.apart ops ok=true):=by
 simp only [Ve,and_eq_true,all_eq_true,mem_range]at h;refine⟨h.1,h.2.1,fun p o hp hc d hd=>?_⟩;have hlt:p<ops.size:=(by grind);have:=h.2.2 p hlt;simp only [hp,hd]at this;simp only [and_eq_true,not_eq_true',all_eq_true,mem_range]at this;refine⟨by grind,fun k ok hk Tj=>?_⟩;have hkl:k<ops.size:=(by grind);have:=this.2 k hkl;simp only [hk,or_eq_true,and_eq_true,Fq,beq_eq]at this;rcases this with q | ⟨q1,q2⟩
 ·grind
 ·refine⟨q1.imp id fun q=>q.imp id fun q e he=>?_,q2⟩;rw [he]at q;simp only [and_eq_true,not_eq_true']at q;refine⟨by grind,fun e=>?_⟩;simp_all
def yB (pr:List (List Nat)) (L:Array Bool):Prop:= ∀ k,L.getD k false=true-> ∀ j∈pr.getD k [],L.getD j false=true
theorem AiP (hp:jt ops pr=true): ∀ (k:Nat),k<ops.size-> ∀ j∈pr.getD k [],j<k:=by
 intro k;induction k using Nat.strongRecOn with
 | ind k ih=>
   intro hk j hj;have hp':=hp;simp only [jt,all_eq_true,mem_range,and_eq_true,or_eq_true,any_eq_true,Fq,blt_eq]at hp';grind
theorem AiQ {L:Array Bool} {i:Nat} (h:L.getD i true=false):L.getD i false=false:=by grind
theorem aih {L:Array Bool} {i:Nat} (h:L.getD i true=false):(L.setIfInBounds i true).getD i false=true:=by
 rcases Nat.lt_or_ge i L.size with q | q
 all_goals simp_all
theorem DH {L:Array Bool} {i k:Nat} (h:(L.setIfInBounds i true).getD k false=true):k=i\/L.getD k false=true:=by
 by_cases q:i=k
 all_goals simp_all
theorem Gd (hp:jt ops pr=true) {L:Array Bool} (hd:yB pr L) {i:Nat} (h:i∈Region.ready .any ops L):i<ops.size/\L.getD i true=false/\ ∀ j∈pr.getD i [],L.getD j false=true:=by
 obtain⟨h0,o,ho,af5⟩:=mem_ready.1 h;have hlt:i<ops.size:=(by grind);refine⟨hlt,h0,fun j hj=>?_⟩;have hp':=hp;simp only [jt,all_eq_true,mem_range,and_eq_true,or_eq_true,any_eq_true,Fq,blt_eq]at hp';have dir: ∀ k∈mT ops i,L.getD k false=true:=fun k hk=>by unfold mT at hk;grind
 rcases (hp' i hlt).2 j hj with q | ⟨m,hm,q⟩
 ·grind
 ·exact hd m (dir m hm) j q
theorem yB.set (hp:jt ops pr=true) {L:Array Bool} (hd:yB pr L) {i:Nat} (h:i∈Region.ready .any ops L):yB pr (L.setIfInBounds i true):=fun k hk j hj=>by
 rcases DH hk with rfl | hk
 ·exact getD_set_true ((Gd hp hd h).2.2 j hj)
 ·exact getD_set_true (hd k hk j hj)
theorem nC (a:Act) (d:Nat) (v:Value):a.put (some d) ((a.put (some d) v).tmps.getD d Go.undef)=a.put (some d) v:=by
 rcases Nat.lt_or_ge d a.tmps.size with q | q
 all_goals simp_all [Act.put,Array.setIfInBounds_eq_of_size_le]
theorem Et {a:Act} {x:Option Tmp} {v:Value} {d:Nat} (h: ∀ e,x=some e->e ≠ d):(a.put x v).tmps.getD d Go.undef=a.tmps.getD d Go.undef:=by
 cases x with
 | none=>rfl
 | some e=>
   have:=h e rfl;simp_all [Act.put]
theorem wd.alf {z:Prop} {o:Oper} {a:Act} {w:World} {x:Option Tmp} {v:Value} (hs: ∀ cs b,o.op ≠ .select cs b) (h1: ∀ e,x=some e->e∉o.looksAt ops) (h2: ∀ d e,o.dst=some d->x=some e->e ≠ d):wd P z o (a.put x v) w↔wd P z o a w:=by unfold wd;refine forall_congr' fun d=>forall_congr' fun hd=>?_;rw [execOp_put o hs a x v h1,Et (by grind)]
theorem AbL (a:Act) (d:Nat) (v u:Value):(a.put (some d) v).put (some d) u=a.put (some d) u:=by simp only [Act.put,Array.setIfInBounds_setIfInBounds]
theorem yC (a:Act) {d e:Nat} (h:e ≠ d) (v u:Value):(a.put (some d) v).put (some e) u=(a.put (some e) u).put (some d) v:=by simp_all [Act.put,Array.setIfInBounds_comm]
theorem JD (h:QE ops lz=true) {p:Nat} (hp:p∈lz) {o:Oper} (ho:ops[p]? =some o):DO o=1/\ ∀ d,o.dst=some d-> ∀ k ok,ops[k]? =some ok->k ≠ p->(DO ok ≠ 0->d∉ok.looksAt ops)/\ ∀ e,ok.dst=some e->e ≠ d:=by
 simp only [QE,all_eq_true]at h;have:=h p hp;rw [ho]at this;simp only [and_eq_true,beq_eq]at this;refine⟨this.1,fun d hd k ok hk Tj=>?_⟩;have h2:=this.2;rw [hd]at h2;simp only [all_eq_true,mem_range]at h2;have h3:=h2 k (Array.getElem?_eq_some_iff.1 hk).1;rw [hk]at h3;simp only [or_eq_true,and_eq_true,beq_eq,not_eq_true']at h3;rcases h3 with q | ⟨q1,q2⟩
 ·grind
 ·refine⟨fun hc=>?_,fun e he=>?_⟩
  ·grind
  ·rw [he]at q2;intro e';simp_all
theorem db.up1 (hst:Ve ops pr=true) (hlz:QE ops lz=true) {L:Array Bool} {a a':Act} {w:World} (h:db P ops pr lz L a w) (hu:Up1 P ops pr lz L w a a'):db P ops pr lz L a' w:=by
 obtain⟨hns,hp,aeX⟩:=Hv hst;have abq:=Region.noSelect_spec hns;obtain⟨p,o,d,u,h1,h2,h3,h4,h5,h6,rfl⟩:=hu;obtain⟨k1,k2⟩:=JD hlz h1 h2;have aam:=(aeX p o h2 (by omega) d h3).1;intro q oq hq hc hl hf;by_cases hqp:q=p
 ·subst hqp;rw [h2]at hq;injection hq with hq;subst hq;intro d' hd';obtain⟨u',m1,m2⟩:=h q o h2 hc hl hf d' hd';refine⟨u', .inl h1,fun w' hw'=>?_⟩;rw [execOp_put o (by grind) a (some d) u (fun e he=>by injection he with he;exact he▸aam)];grind
 ·obtain⟨m1,m2⟩:=k2 d h3 q oq hq hqp;exact(wd.alf (ops:=ops) (by grind) (by grind) (by grind)).2 (h q oq hq hc hl hf)
theorem db.ups (hst:Ve ops pr=true) (hlz:QE ops lz=true) {L:Array Bool} {a a':Act} {w:World} (h:db P ops pr lz L a w) (hu:Ups P ops pr lz L w a a'):db P ops pr lz L a' w:=by
 induction hu with
 | refl=>exact h
 | step _ h1 ih=>exact ih.up1 hst hlz h1
theorem Ups.trans {L:Array Bool} {a b c:Act} {w:World} (h:Ups P ops pr lz L w a b) (h2:Ups P ops pr lz L w b c):Ups P ops pr lz L w a c:=by
 induction h2 with
 | refl=>exact h
 | step _ h1 ih=>exact ih.step h1
theorem Ups.put (hst:Ve ops pr=true) (hlz:QE ops lz=true) {i:Nat} {oi:Oper} {v:Value} (hi:ops[i]? =some oi) (hc:DO oi ≠ 0) {L:Array Bool} (hdc:yB pr L) (hun:L.getD i false=false) {a b:Act} {w:World} (h:Ups P ops pr lz L w a b):Ups P ops pr lz (L.setIfInBounds i true) w (a.put oi.dst v) (b.put oi.dst v):=by
 obtain⟨hns,hp,aeX⟩:=Hv hst;have abq:=Region.noSelect_spec hns;obtain⟨_,d,hd⟩:=Mh hc;induction h with
 | refl=>exact .refl
 | step _ hu ih=>
   refine ih.step ?_;obtain⟨p,o,e,u,h1,h2,h3,h4,h5,h6,rfl⟩:=hu;obtain⟨k1,k2⟩:=JD hlz h1 h2;have Tj:i ≠ p:=(by grind);have hde:=(k2 e h3 i oi hi Tj).2 d hd;have hcN:O6 ops i ≠ 0:=by grind [O6]
   have au9:d∉o.looksAt ops:=by
    rcases ((aeX p o h2 (by omega) e h3).2 i oi hi Tj).1 with q | q | q
    ·have:=hdc p h4 i q;grind
    all_goals grind
   refine⟨p,o,e,u,h1,h2,h3,getD_set_true h4,fun⟨k,hk,hk0,hpk⟩=>?_,?_,?_⟩
   ·rcases DH hk with rfl | hk
    ·grind
    ·exact h5 ⟨k,hk,hk0,hpk⟩
   ·rw [execOp_put o (by grind) _ oi.dst v (fun e he=>by rw [hd]at he;injection he with he;exact he▸au9)];exact h6
   ·rw [hd,yC _ (Ne.symm hde)]
theorem Ae6 (hst:Ve ops pr=true) (hlz:QE ops lz=true) {i:Nat} {oi:Oper} {v:Value} (hi:ops[i]? =some oi) (hc:DO oi ≠ 0) (hQ: ∀ c a w, ¬Q (.panic c) a w):
 ∀ (fuel:Nat) (L:Array Bool) (a:Act) (w:World),yB pr L->i∈Region.ready .any ops L->
   (∀ a'',Ups P ops pr lz (L.setIfInBounds i true) w (a.put oi.dst v) a''->db P ops pr lz (L.setIfInBounds i true) a'' w/\D7 P ops Q pr lz fuel (L.setIfInBounds i true) a'' w)->D7 P ops Q pr lz (fuel+1) L a w:=by
 obtain⟨hns,hp,aeX⟩:=Hv hst;have abq:=Region.noSelect_spec hns;obtain⟨hgd,d,hd⟩:=Mh hc;have aam:=(aeX i oi hi hc d hd).1;have hcN:O6 ops i ≠ 0:=by grind [O6]
 have wanted: ∀ a:Act,Region.wanted oi (yielded ops a.tmps)=true:=fun a=>F7 hgd _;have atX: ∀ (L:Array Bool),yB pr L->i∈Region.ready .any ops L-> ¬Frc ops pr i (L.setIfInBounds i true):=fun L hdc hr ⟨k,hk,hk0,hik⟩=>by
  obtain⟨_,hun,_⟩:=Gd hp hdc hr;rcases DH hk with rfl | hk
  ·grind
  ·have:=hdc k hk i hik;grind
 have self: ∀ (L:Array Bool) (a:Act) (w:World) (fuel:Nat),yB pr L->i∈Region.ready .any ops L->(∀ a'',Ups P ops pr lz (L.setIfInBounds i true) w (a.put oi.dst v) a''->db P ops pr lz (L.setIfInBounds i true) a'' w/\D7 P ops Q pr lz fuel (L.setIfInBounds i true) a'' w)->
  wpOp P ops Q i (fun a' w'=> ∀ a'',Ups P ops pr lz (L.setIfInBounds i true) w' a' a''->db P ops pr lz (L.setIfInBounds i true) a'' w'/\D7 P ops Q pr lz fuel (L.setIfInBounds i true) a'' w') a w:=fun L a w fuel hdc hr H=>by
  obtain⟨_,hun,_⟩:=Gd hp hdc hr;obtain⟨u,hz,hu⟩:=(H _ .refl).1 i oi hi hc (aih hun) (atX L hdc hr) d hd;have hex:=hu w (.inr (C1.refl w));have azu:=hex;rw [execOp_put oi (by grind) a oi.dst v (fun e he=>by rw [hd]at he;injection he with he;exact he▸aam)]at hex;have hy:YieldsIf P ops (fun w'=>w'=w) oi u a:= .inl ⟨wanted a,fun w' e=>by subst e;exact hex⟩;refine hy.wpOp hi rfl ?_;rcases hz with hz | hz
  ·intro a'' aoh;refine H a'' (Ups.trans (.step .refl ?_) aoh);exact⟨i,oi,d,u,hz,hi,hd,aih hun,atX L hdc hr,azu,by rw [hd,AbL]⟩
  ·subst hz;intro a'' aoh;rw [hd,nC]at aoh;grind
 intro fuel;induction fuel with
 | zero=>
   intro L a w hdc hr H;refine⟨(by grind),fun j hj=>?_⟩;by_cases hji:j=i
   ·simp_all
   ·have:=ready_mono hj hji;rw [(H _ .refl).2.1]at this;cases this
 | succ fuel ih=>
   intro L a w hdc hr H;refine⟨(by grind),fun j hj=>?_⟩;by_cases hji:j=i
   ·simp_all
   ·have h1:=(H _ .refl).2.2 j (ready_mono hj hji);obtain⟨hjl,avb,avc⟩:=Gd hp hdc hj;obtain⟨hil,azm,avd⟩:=Gd hp hdc hr;have hoj:ops[j]? =some ops[j]:=(by grind);have nij:i∉pr.getD j []:=(by grind);have nji:j∉pr.getD i []:=(by grind);have hap:oi.apart ops ops[j]=true:=by grind
    have hy:YieldsIf P ops (fun _=>False) oi v a:= .inl ⟨wanted a,fun _ h=>h.elim⟩;have h2:=wpOp_putIf hoj hap (fun cs b=>abq i oi cs b hi) (fun cs b=>abq j _ cs b hoj) (fun c a w q=>absurd q (hQ c _ w)) hy h1;have hdj:=hdc.set hp hj;have hir:i∈Region.ready .any ops (L.setIfInBounds j true):=ready_mono hr (Ne.symm hji);have azn:(L.setIfInBounds j true).getD i false=false:=by rw [getD_set_ne false hji];grind
    refine wpOp_mono (fun a' w' ⟨_,h34⟩=>?_) h2;rw [Array.setIfInBounds_comm _ _ (Ne.symm hji)]at h34;intro a3 ha3;have H3: ∀ a'',Ups P ops pr lz ((L.setIfInBounds j true).setIfInBounds i true) w' (a3.put oi.dst v) a''->db P ops pr lz ((L.setIfInBounds j true).setIfInBounds i true) a'' w'/\D7 P ops Q pr lz fuel ((L.setIfInBounds j true).setIfInBounds i true) a'' w':=fun a'' aoh=>
     h34 a'' ((ha3.put hst hlz hi hc hdj azn).trans aoh)
    refine⟨fun p op hop hcp hpl hpf=>?_,(by grind)⟩;have h3:=(H3 _ .refl).1;have Tj:p ≠ i:=(by grind);have nip:i∉pr.getD p []:=fun q=>by have:=hdj p hpl i q;grind
    obtain⟨_,dp,hdp⟩:=Mh hcp;have hpd: ∀ e,oi.dst=some e->e∉op.looksAt ops/\e ≠ dp:=by
     rcases ((aeX p op hop hcp dp hdp).2 i oi hi (Ne.symm Tj)).1 with q | q | q
     ·grind
     all_goals grind
    have:=h3 p op hop hcp (getD_set_true hpl) (fun⟨k,hk,hk0,hpk⟩=>by
     rcases DH hk with rfl | hk
     ·grind
     ·exact hpf ⟨k,hk,hk0,hpk⟩)
    exact(wd.alf (ops:=ops) (by grind) (by grind) (by grind)).1 this
theorem db.take (hst:Ve ops pr=true) {i:Nat} {oi:Oper} {v:Value} (hi:ops[i]? =some oi) (hc:DO oi ≠ 0) {L:Array Bool} {a:Act} {w:World} (hdc:yB pr L) (hr:i∈Region.ready .any ops L)
 (hS:db P ops pr lz L a w) (hW:wd P (i∈lz) oi (a.put oi.dst v) w):db P ops pr lz (L.setIfInBounds i true) (a.put oi.dst v) w:=by
 obtain⟨hns,hp,aeX⟩:=Hv hst;have abq:=Region.noSelect_spec hns;obtain⟨hil,azm,avd⟩:=Gd hp hdc hr;intro p op hop hcp hpl hpf;rcases DH hpl with rfl | ar8
 ·grind
 ·clear hpl;have hpl:=ar8;have Tj:p ≠ i:=(by grind);have nip:i∉pr.getD p []:=fun q=>by have:=hdc p hpl i q;grind
  obtain⟨_,dp,hdp⟩:=Mh hcp;have hpd: ∀ e,oi.dst=some e->e∉op.looksAt ops/\e ≠ dp:=by grind
  refine(wd.alf (ops:=ops) (by grind) (by grind) (by grind)).2 ?_;exact hS p op hop hcp hpl (fun⟨k,hk,hk0,hpk⟩=>hpf ⟨k,getD_set_true hk,hk0,hpk⟩)
theorem AbM {o:Oper} {a:Act} {w:World} {K:Act->World->Prop} (h:o.wp P a w K Q):o.wp P a w (fun a' w'=>K a' w'/\ ∃ ds u,a'=({a with defers:=ds}:Act).put o.dst u) Q:=by
 unfold Oper.wp at *;generalize (execOp a.eval o).run P w=r at *;cases r with
 | ok n w'=>
   cases n<;>simp only [Oper.upon]at h ⊢ <;>first
    | grind
    | grind
    | grind
    | grind
    | exact h
 | halt x w'=>cases x<;>simp only [Oper.upon]at h ⊢ <;>exact h
theorem rn (hst:Ve ops pr=true) (hlz:QE ops lz=true) {j:Nat} {oj:Oper} (hj:ops[j]? =some oj) (hc:DO oj=0) {L:Array Bool} {a:Act} {w:World} (hdc:yB pr L) (hrj:j∈Region.ready .any ops L) {fuel:Nat} (hS:db P ops pr lz L a w) {K:Act->World->Prop}
 (hw:if Region.wanted oj (yielded ops a.tmps)=true then oj.wp P a w K Q else K (a.put oj.dst undef) w)
 (hB: ∀ a' w',K a' w'-> ∀ p op,ops[p]? =some op->DO op=1->L.getD p false=true-> ¬Frc ops pr p (L.setIfInBounds j true)->(∀ w1,C1 w w1->(execOp a'.eval op).run P w1=(execOp a.eval op).run P w1)->(∀ d,op.dst=some d->a'.tmps.getD d Go.undef=a.tmps.getD d Go.undef)->wd P (p∈lz) op a w->wd P (p∈lz) op a' w')
 (hU: ∀ a' w' a'',K a' w'->Up1 P ops pr lz (L.setIfInBounds j true) w' a' a''->K a'' w')
 (hK: ∀ a' w',K a' w'->(∀ d',oj.dst ≠ some d'->(∀ (p:Nat) (op:Oper),ops[p]? =some op->DO op ≠ 0->op.dst ≠ some d')->a'.tmps.getD d' Go.undef=a.tmps.getD d' Go.undef)->db P ops pr lz (L.setIfInBounds j true) a' w'->D7 P ops Q pr lz fuel (L.setIfInBounds j true) a' w'):
 wpOp P ops Q j (fun a' w'=> ∀ a'',Ups P ops pr lz (L.setIfInBounds j true) w' a' a''->db P ops pr lz (L.setIfInBounds j true) a'' w'/\D7 P ops Q pr lz fuel (L.setIfInBounds j true) a'' w') a w:=by
 obtain⟨hns,hp,aeX⟩:=Hv hst;have abq:=Region.noSelect_spec hns;obtain⟨hjl,avb,avc⟩:=Gd hp hdc hrj;have key: ∀ a' w',K a' w'->(∃ ds u,a'=({a with defers:=ds}:Act).put oj.dst u)-> ∀ a'',Ups P ops pr lz (L.setIfInBounds j true) w' a' a''->db P ops pr lz (L.setIfInBounds j true) a'' w'/\D7 P ops Q pr lz fuel (L.setIfInBounds j true) a'' w':=by
  intro a' w' hk ⟨ds,u,ha'⟩;have hSS:db P ops pr lz (L.setIfInBounds j true) a' w':=by
   intro p op hop hcp hpl hpf;have Tj:p ≠ j:=(by grind);have hpl:L.getD p false=true:=by grind [DH]
   have nip:j∉pr.getD p []:=fun q=>by have:=hdc p hpl j q;grind
   obtain⟨_,dp,hdp⟩:=Mh hcp;have hpd: ∀ e,oj.dst=some e->e∉op.looksAt ops/\e ≠ dp:=by
    rcases ((aeX p op hop hcp dp hdp).2 j oj hj (Ne.symm Tj)).1 with q | q | q
    ·grind
    ·exact absurd ⟨j,aih avb,by unfold O6;rw [hj];exact hc,q.2⟩ hpf
    ·exact q
   have hold: ¬Frc ops pr p L:=fun⟨k,hk,hk0,hpk⟩=>hpf ⟨k,getD_set_true hk,hk0,hpk⟩;have hW:=hS p op hop hcp hpl hold;have e1:execOp a'.eval op=execOp a.eval op:=by rw [ha'];exact execOp_put op (by grind) ({a with defers:=ds}:Act) oj.dst u (fun e he=>(hpd e he).1)
   have e2: ∀ d,op.dst=some d->a'.tmps.getD d Go.undef=a.tmps.getD d Go.undef:=(by grind [Et]);by_cases h2:DO op=2
   ·intro d hd;obtain⟨u',m1,m2⟩:=hW d hd;simp_all
   ·have h1:DO op=1:=by
     have:DO op<=2:=by unfold DO;grind
     omega
    grind
  have hsl: ∀ d',oj.dst ≠ some d'->a'.tmps.getD d' Go.undef=a.tmps.getD d' Go.undef:=(by grind [Et]);intro a'' hu;have hk':K a'' w'/\ ∀ d',oj.dst ≠ some d'->(∀ (p:Nat) (op:Oper),ops[p]? =some op->DO op ≠ 0->op.dst ≠ some d')->a''.tmps.getD d' Go.undef=a.tmps.getD d' Go.undef:=by
   induction hu with
   | refl=>grind
   | step _ h1 ih=>
     refine⟨hU _ _ _ ih.1 h1,fun d' hd' hp'=>?_⟩;obtain⟨p,o,d,u,q1,q2,q3,q4,q5,q6,rfl⟩:=h1;rw [Et (fun e he q=>?_)]
     ·exact ih.2 d' hd' hp'
     grind [JD]
  have aHp:=hSS.ups hst hlz hu;grind
 unfold wpOp;simp only [hj];split
 ·rename_i hwt;rw [if_pos hwt]at hw;exact .inl (Oper.wp_mono (by grind) (AbM hw))
 grind
end
theorem Vf {P:Program} {F:Fr} {st:St} {a:Act} {w:World} {G:AG} (h:R F st a w G) {d:Nat} {t:TypeId} {len:Nat} {ps:Array (Nat×Operand)} (hs:(Bh P st d t len ps.toList).1) {r:Value} {w':World}
 (hr:(Instr.buildSlice t len (ps.map fun(i,x)=>(i,a.eval x))).run P w= .ok r w'):C1 w w':=by
 unfold Bh at *;split at hs
 ·rename_i E n by' abq;split at hs
  ·rename_i z hz;split at hs
   ·rename_i cs hf;obtain⟨h1,h2,h3,h4⟩:=hs;obtain⟨i,zv,hu,hi,hzv,hsz,hby,hzs⟩:=DD abq;obtain⟨i',zv',hi',acV,hc⟩:=Hj hz;rw [hi]at hi';injection hi' with hi';subst hi';rw [hzv]at acV;injection acV with acV;subst acV;have hzr:=Md (FN (w:=w) (G:=G) hc) (by omega) len;obtain⟨abh,q1,q2⟩:=J0 hf (P1 (h.parts rfl h1)) hzr;have q1':Instr.fill (fun i=>some (i*n,n)) ((Array.range (len*n)).map (zv.cells[· % zv.cells.size]!)) (ps.map fun(i,x)=>(i,a.eval x)).toList =some abh:=by simp_all
    rw [acN hu hi hzv hsz h3 h4 q1']at hr;grind [JW]
   grind
  grind
 grind
end Go.PL
namespace Go.PL
open Go Go.RowKit
section
variable {F:Fr} {st:St} {a:Act} {w:World} {G:AG}
theorem jA {w:World} {G:AG}: ∀ {cs:List C} {vs:List Value} {k:Nat} {c:C},Aj w G cs vs->cs[k]? =some c-> ∃ v,vs[k]? =some v/\Ad w G c v
 | [],_,_,_,_,h=>by simp at h
 | _::_,[],_,_,h,_=>by simp only [Aj]at h
 | c::cs,v::vs,0,d,h,hk=>by simp only [Aj]at h;grind
 | c::cs,v::vs,k+1,d,h,hk=>by simp only [Aj]at h;obtain⟨u,h1,h2⟩:=jA h.2 (by simpa using hk);exact⟨u,by simpa using h1,h2⟩
theorem R.amz (h:R F st a w G) {id:Ah} {e:Aw} (hl:st.IN id=some e) {cs':List C} (hlen:cs'.length=e.cs.length) (hp:Ao cs'=true) {b:Nat} (hb:G.m_ id=some b)
 (hc: ∀ k c,cs'[k]? =some c->(e.cs[k]? =some c/\p9 c=true)\/ ∃ E n,c= .isl E n 0 []/\w.cell? ⟨b,k,none⟩=some (.slice none 0 0)):
 ∃ G',R F (st.b_ (DF id) ((st.so.map (Aw.b_ (DF id))).map (Tl id e.row cs'))) a w G'/\G'.own id=G.own id:=by
 obtain⟨hm,hid,hd,hmk,hpu,hpe,hi,E0,n0,ahY,hr0⟩:=h.aa3 hl;let G':AG:=⟨fun i=>if DF id i=true then none else G.m_ i,fun i=>if DF id i=true then some (.slice none 0 0)else G.own i,fun b=>F.av b\/ ∃ i,(if DF id i=true then none else G.m_ i)=some b⟩;have hag: ∀ i,DF id i=false->G'.m_ i=G.m_ i/\G'.own i=G.own i:=(by grind);have hno:DF id id=false:=by grind [Fp]
 have t:aaT F (DF id) (fun _=>false) G G' w w:=Ho h G' rfl hag (by grind) (fun i j b hib hjb=>by
  simp only [G']at hib hjb;split at hib
  ·cases hib
  ·split at hjb
   ·cases hjb
   ·exact h.inj _ _ b hib hjb)
 obtain⟨E1,n1,aj4,v1,ab7,aiL,g1,g2,g3,g4,g5,g6,g7,g8,g9⟩:=h.aed hl hb;obtain⟨us,r1,r2⟩:=g9.list;have azd: ∀ cs:List C,Ao cs=true->JQ (fun i=>BP i cs=true) G G':=fun cs hp i hi'=>absurd (show BP i cs=true from hi') (by rw [AP i cs hp];simp);have z_:An w G' cs' b 0:=by
  have:=Abo (f:=_root_.id) (cs:=cs') (b:=b) (o:=0) (w:=w) (G:=G') (fun k c hk=>by
   rcases hc k c hk with ⟨q1,q2⟩ | ⟨E,n,q1,q2⟩
   ·obtain⟨u,k1,k2⟩:=jA (Aj.mono t.keeps _ _ (azd _ hpe) r1) q1;exact⟨u,by rw [zero_add];have:=r2 k u k1;grind,k2⟩
   ·refine⟨.slice none 0 0,by grind,?_⟩;rw [q1];simp only [_root_.id,Ad];rfl)
  simp_all
 have afC:Bc w G' ⟨id,e.row,cs',true⟩:=by unfold Bc;rw [g1];exact⟨by grind,v1,by grind, .inr ⟨b,ab7,aiL,g4,by grind,g5,g6,g7,g8,z_⟩⟩
 have hin:EU w G' ⟨id,e.row,cs',true⟩:=by
  intro j E2 n2 abo cs2 hj;rcases hc j _ hj with ⟨_,q2⟩ | ⟨E,n,q1,q2⟩
  ·cases q2
  ·injection q1 with q1 q3 q4 q5;subst q1 q3 q4 q5;have ho:G'.own (BO j id)=some (.slice none 0 0)/\G'.m_ (BO j id)=none:=by grind [IR]
   refine⟨rfl,?_,b,_,by grind,q2,ho.1⟩;unfold Bc;grind
 have Tq:=t.alI h hl (fun _=>true) (fun d hd' _ adF=>by
  have h1:DF id d.id=false:=by
   cases q:DF id d.id with
   | false=>rfl
   | true=>have:=Fp q;rw [(h.deep d hd').1]at this;cases this
  exact⟨h1,rfl,fun _ k=>⟨by grind [IR],rfl⟩⟩) (by rw [g1];rfl) afC hin hp
 rw [Lb]at Tq;exact⟨G',t.af1 h _ Tq.1 Tq.2.1 Tq.2.2.1 Tq.2.2.2,(hag id hno).2⟩
end
end Go.PL
