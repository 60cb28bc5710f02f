/- The pure logic: PlPh, PlPi, PlPj, PlPk, PlPm, PlPn, PlPo, PlPp, PlPr, PlPt, PlPv, PlPz, PlPu, PlQa, Ta, Tb, Tc, Td, Te, Tf, Tg, Th, Ti, PlYa, PlYb, PlYc, PlYd, PlYe. -/
import Derived.Test.YtekonfaeacligaaGreatDoorPlRtoPlPg
import Derived.Lib.ConvBytes
import Derived.Lib.AtoiErrMem
import Derived.Laws.Cover3
import Derived.Scope
import Derived.Lib.AppendStr
import Derived.Lib.Builder
import Derived.Lib.UnsafeStr
import Derived.MapKept
import Derived.OrdersHeld
open Bool (and_eq_true or_eq_true or_eq_false_iff not_eq_true')
open Nat (le_succ beq_eq blt_eq ble_eq zero_add add_mul one_mul add_assoc add_zero le_refl)
open List (mem_cons map_cons mem_map all_eq_true flatMap_cons getD_eq_getElem?_getD all_cons mem_range mem_of_getElem? map_map nodup_cons getElem?_map ext_getElem? map_append any_eq_true mem_append all_nil)
open Option.some (injEq)
set_option linter.all false
namespace Go.PL
open Go Go.RowKit
def G5 (s:List UInt8):List Int:=s.map fun b=>(b.toNat:Int)
def dD (P:Program) (dst:TypeId):Option TypeId:=match P.underlying dst with
 | some (.slice e)=>match P.underlying e with
   | some (.int .u8)=>some e
   | _=>none
 | _=>none
theorem T5 {P:Program} {dst e:TypeId} (h:dD P dst=some e):P.underlying dst=some (.slice e)/\P.underlying e=some (.int .u8):=by grind [dD]
theorem N9 {w:World} {G:Ax} {e:TypeId} (s:List UInt8): ∀ (l:List UInt8) (k:Nat),s.drop k=l->Ai (Lib.bytesWorld w e ⟨s.toArray⟩) G ((G5 l).flatMap (eI .u8)) w.heap.size k
 | [],_,_=>by simp [G5,Ai]
 | b::l,k,h=>by
   have hk:k<s.length:=by grind [List.drop_eq_nil_of_le]
   have hb:s.getD k 0=b:=by have:=congrArg (fun l=>l.head?) h;grind [List.head?_drop]
   have hd:s.drop (k+1)=l:=by have:=congrArg List.tail h;simpa using this
   simp only [G5,map_cons,flatMap_cons,eI,List.cons_append,List.nil_append,Ai,Ab];refine⟨⟨_,Lib.bytesWorld_cell w e ⟨s.toArray⟩ k (by simpa [ByteArray.size] using hk),?_⟩,N9 s l (k+1) hd⟩;simp only [getD_eq_getElem?_getD]at hb;simp [getD_eq_getElem?_getD,hb]
theorem El.bytes {P:Program} {I:World->Prop} {o:Oper} {st:St} {K:St->Prop} {x:Operand} {src dst:TypeId} (e:TypeId) (s:List UInt8)
 (ho:o.op= .convert src dst x) (hlen:s.length<=140737488355328) (hK:K (st.put o.dst (vL (eI .u8) (G5 s)))) (ha:st.ev x= .c (.str s):=by kernel_rfl)
 (hs:Cb P src=true:=by kernel_rfl) (hd:dD P dst=some e:=by kernel_rfl):El P I o st K:=by
 intro F a w G Q hI hR;obtain⟨h1,h2⟩:=T5 hd;have hx:=hR.ev x;rw [ha]at hx;simp only [Aa,Ab]at hx;obtain⟨u,hu⟩: ∃ u,P.underlying src=some u:=by unfold Cb at hs;grind
 have h_:(execOp a.eval o).run P w= .ok (.value (.slice (some ⟨w.heap.size,0,none⟩) s.length (grownCap w s.length 0 e))) (Lib.bytesWorld w e ⟨s.toArray⟩):=by simp_all [Lib.run_convert_string_bytes,execOp,ByteArray.size]
 refine Au h_ ⟨_,G,hK,?_⟩;have hb:=Lib.bytesWorld_below w e ⟨s.toArray⟩;refine(hR.same (Co hb) (Cx hb)).put ?_;have hl:(G5 s).length =s.length:=by simp [G5]
 simp only [Aa,Ab,hl];refine⟨(by grind [CS,eI,Al,C.pure]),_,_,rfl,grownCap_ge _ _ _ _,(by grind [grownCap_le_maxLen,maxLen]),fun h0=>?_, .inr ⟨w.heap.size,0,rfl,fun hw=>absurd (hR.aei hw) (by omega),?_,N9 s s 0 rfl⟩⟩
 all_goals grind [Lib.bytesWorld_size]
end Go.PL
namespace Go.PL
open Go Go.RowKit
end Go.PL
namespace Go.PL
open Go Go.RowKit
end Go.PL
namespace Go.PL
open Go Go.RowKit
end Go.PL
namespace Go.PL
open Go Go.RowKit
section
variable {P:Program} {F:Fr} {st:St}
def qE (Q:Exit->St->Prop):Exit->St->Prop
 | .goto _,_=>False
 | e,st=>Q e st
theorem Ak.label {l:Nat} {Q:Exit->St->Prop} (h:Q .normal st):Ak P F (.label l) st Q:=fun _ _ G hR=>wp_label ⟨st,G,h,hR⟩
theorem Ak.scope {c:Code} {Q:Exit->St->Prop} (h:Ak P F c st (qE Q)):Ak P F (.scope c) st Q:=
 fun a w G hR=>wp_scope_straight (Code.wp_mono (fun e a' w' ⟨an,G',q,hR'⟩=>by
  cases e<;>simp only [Exit.noGoto,qE]at q ⊢ <;>first
   | exact q.elim
   | grind) (h a w G hR))
end
end Go.PL
namespace Go.PL
open Go Go.RowKit
end Go.PL
namespace Go.PL
open Go Go.RowKit Go.Lib
theorem J7 {P:Program} {w:World} (t u ty e:TypeId) (i:TypeInfo) (ht:P.underlying t=some (.slice e)) (hu:P.underlying u=some .string) (hi:P.info? e=some i) (hz:i.zero=some (.int .u8 0))
 (hsize:i.size=1) (hby:i.bytes=1) (v:Value) (n:Nat) (xs:List Value) (z_:w.ownsRow 0 e 1 v n xs) (s:ByteArray) (acV:n+s.size<=140737488355328):
 ∃ v' w',(Builtin.append_ #[t,u] ty #[v, .string s]).run P w= .ok v' w'/\
   w'.ownsRow 0 e 1 v' (n+s.size) (xs++strCells s)/\w.grownBy w' v.ownBlock/\(v'.ownBlock=v.ownBlock\/ ∀ b,v'.ownBlock=some b->w.heap.size<=b):=by
 have h63:n+s.size<=maxLen:=by unfold maxLen;omega
 have hxl:xs.length=n:=by simpa using z_.1
 have hlen:(xs++strCells s).length =(n+s.size)*1:=by simp_all [strCells_length]
 obtain⟨v',w',hr,h1,h2,_⟩:=run_append_own_string (P:=P) w 0 t u ty e i ht hu hi hz hsize hby v n xs z_ s h63 acV (Nat.zero_le _);refine⟨v',w',hr,h1,h2,?_⟩;rcases z_.2 with ⟨rfl,rfl⟩ | ⟨g,cap,cur,rfl,hbg,hg,hnc,hcm,hcs,alu⟩
 ·by_cases hm:s.size=0
  ·grind
  ·have hr2:=run_append_nil_string (P:=P) w t u ty e i (.int .u8 0) ht hu hi hz s (by omega) (by omega) (by rw [hby];omega);grind [Value.ownBlock]
 ·by_cases afR:n+s.size<=cap
  ·have hr2:=run_append_room_string (P:=P) w t u ty e i ht hu hi hsize g n cap cur hg s afR (by omega);rw [hr2]at hr;injection hr with hr _;subst hr;exact .inl rfl
  ·have holds: ∀ j u,xs[j]? =some u->w.cell? ((⟨g,0,none⟩:Addr).add j)=some u:=z_.cells (g:=g) rfl;have hr2:=run_append_grow_string (P:=P) w t u ty e i (.int .u8 0) ht hu hi hz ⟨g,0,none⟩ n cap xs (by rw [hsize];simpa using hxl) holds s (by omega) (by omega) (by rw [hby];exact growslice_fits (by omega) (by omega));grind [Value.ownBlock]
end Go.PL
namespace Go.PL
open Go Go.RowKit
section
variable {P:Program} {F:Fr} {st:St} {ops:Array Oper}
end
end Go.PL
namespace Go.PL
open Go Go.RowKit
end Go.PL
namespace Go.PL
open Go Go.RowKit Go.MapKept
section
variable {F:Fr} {st:St} {a:Act} {w:World} {G:Ax}
end
section
variable {P:Program} {I:World->Prop} {o:Oper} {st:St} {K:St->Prop}
end
end Go.PL
namespace Go.PL
open Go Go.RowKit
theorem El.ahT {P:Program} {I:World->Prop} {o:Oper} {st:St} {K:St->Prop} {x:Operand} {xs:List Operand} {c:Call} {s:Prop} {vs:List V} {f:FuncId} {cs:List C} {fn:Func} {body:Code} {n:Nat} {rs:List ResultVar} (k:Nat)
 (ho:o.op= .call c) (aaD:c.callee= .value x) (hxs:c.args.toList=xs) (ha:st.args true xs=(s,vs)) (hs:s) (hf:st.ev x= .c (.bmv f cs)) (aao:ent P f=true) (hfn:P.funcs[f]? =some fn) (hb:fn.body=some body) (hn:fn.ntmps=n) (hr:fn.results=rs.toArray)
 (h: ∀ w0 av Tc gv,Ak P ⟨w0,av,Tc,I,gv⟩ body (st.enter k (cs.map V.c++vs) n) (inQ P rs st.tm.length st.pre o.dst K)):El P I o st K:=by
 intro F a w G Q hI hR;have aas:Ao w G vs (xs.map a.eval):=by have:=hR.args (g:=true) rfl (xs:=xs) (by grind);grind
 obtain⟨arr,hev,hcs⟩: ∃ arr:Array Value,a.eval x= .func (.func f) arr #[]/\Ae w G cs arr.toList:=by have hx:=hR.ev x;grind [Aa,Ab]
 have h_:(execOp a.eval o).run P w= .ok (.enter f (arr++(xs.map a.eval).toArray)) w:=by
  have e:c.args.map a.eval=(xs.map a.eval).toArray :=by grind
  grind [execOp,resolve,Deferred.ofValue,invoke,Tv]
 unfold Oper.wp Oper.upon;rw [h_];simp only;obtain⟨w0,av,Tc,I',gv⟩:=F;simp only at hI;subst hI;have abg:Ao w G (cs.map V.c++vs) (arr++(xs.map a.eval).toArray).toList :=by grind [F6,PN]
 refine calls_of_wp hfn hb ?_;have hR0:=hR.enter k abg fn.ntmps;rw [hn]at hR0;rw [hn];refine Code.wp_mono (fun e a' w' ⟨an,G',q,hR'⟩=>?_) (h _ _ _ _ _ _ _ hR0);have hrs:fn.results.toList=rs:=by rw [hr]
 have fin:(BO P an rs).1/\K (an.back st.tm.length st.pre o.dst (BO P an rs).2)->
  a'.defers=[]/\ ∃ v,(results fn a'.tmps).run P w'= .ok v w'/\hH ⟨w0,av,Tc,I',gv⟩ K (a.put o.dst v) w':=by
  intro ⟨q1,q2⟩;rw [<-hrs]at q1 q2;obtain⟨v,k1,k2⟩:=Js hR' (fn:=fn) q1;refine⟨hR'.dfr,v,k1,_,G',q2,?_⟩;exact(R.back hR.dfr rfl hR' hR.size.symm st.pre).put k2
 cases e<;>simp only [inQ]at q<;>first | exact fin q | exact q.elim
end Go.PL
namespace Go.PL
open Go Go.RowKit
def stS:List V->Nat->List Nat->List V
 | [],_,_=>[]
 | v::vs,_,[]=>v::vs
 | v::vs,i,j::l=>match Nat.beq i j with
   | true=> .undef ::stS vs (i+1) l
   | false=>v::stS vs (i+1) (j::l)
def upS:List V->Nat->List (Nat×V)->List V
 | [],_,_=>[]
 | v::vs,_,[]=>v::vs
 | v::vs,i,(j,x)::l=>match Nat.beq i j with
   | true=>x::upS vs (i+1) l
   | false=>v::upS vs (i+1) ((j,x)::l)
inductive Dn where
 | k (n:Nat)
 | s (n:Nat) (l:List (Nat×C))
 | e (x:Ar)
def upC:List C->Nat->List (Nat×C)->List C
 | [],_,_=>[]
 | v::vs,_,[]=>v::vs
 | v::vs,i,(j,x)::l=>match Nat.beq i j with
   | true=>x::upC vs (i+1) l
   | false=>v::upC vs (i+1) ((j,x)::l)
def zq:List Ar->Nat->Ar
 | [],_=>⟨[],none,[],false⟩
 | e::_,0=>e
 | _::l,n+1=>zq l n
def soD (Tc:List Ar):List Dn->List Ar
 | []=>[]
 | .k n::l=>zq Tc n::soD Tc l
 | .s n c::l=>(match zq Tc n with | ⟨i,r,cs,p⟩=>⟨i,r,upC cs 0 c,p⟩)::soD Tc l
 | .e x::l=>x::soD Tc l
def u (d:List Nat) (l:List (Nat×V)) (st:St):St:=⟨upS (stS st.tm 0 d) 0 l,st.so,st.gh,st.pre⟩
def uo (d:List Nat) (l:List (Nat×V)) (o:List Dn) (st:St):St:=⟨upS (stS st.tm 0 d) 0 l,soD st.so o,st.gh,st.pre⟩
def nA:Nat->List Stp
 | 0=>[]
 | n+1=> .a ::nA n
section
variable {P:Program} {F:Fr} {st:St} {id:Nat} {l:List Oper} {c:Code} {Q:Exit->St->Prop} {cs:List Prop} {K:St->Prop}
theorem Gg (ss:List Stp) (f:St->St) (hl:A0 cs) (h:Ak P F c (f st) Q) (hr:dj (T0 P F.I false l.toArray l ss st) (f st)=some (cs,f st):=by kernel_rfl):Ak P F (.seq (.region id l.toArray false) c) st Q:=Ak.rg _ hr hl h
theorem Ge (ss:List Stp) (f:St->St) (hl:A0 cs) (h:Q .normal (f st)) (hr:T0 P F.I false l.toArray l ss st=some (cs,f st):=by kernel_rfl):Ak P F (.region id l.toArray false) st Q:=Ak.reg hr hl h
theorem hS {x y:Code} {Q:Exit->St->Prop} (h:Ak P F x st (BW (fun an=>Ak P F y an Q) Q)):Ak P F (.seq x y) st Q:=Ak.seq h
theorem hK (h:Q .normal st):Ak P F .skip st Q:=Ak.skip h
theorem hT (h:K st):Ak P F .skip st (BW K Q):=Ak.skip h
theorem hR (h:Q .ret st):Ak P F .ret st Q:=Ak.ret h
theorem hE {id:Nat} (h:Q (.exit id) st):Ak P F (.exit id) st Q:=Ak.exit h
theorem hB {id:Nat} {c:Code} {Q:Exit->St->Prop} (h:Ak P F c st (BI id Q)):Ak P F (.block id c) st Q:=Ak.block h
theorem hO {id:Nat} {ops:Array Oper} {Q:Exit->St->Prop} (h:MH P F.I ops ops.toList st (Q .normal)):Ak P F (.region id ops false) st Q:=Ak.region h
theorem Te {i:Nat} (h:Q (.exit i) st):BW K Q (.exit i) st:=h
theorem qN {i:Nat} (h:Q .normal st):BI i Q .normal st:=h
theorem qX {i:Nat} (h:Q .normal st):BI i Q (.exit i) st:=BI.out h
end
section
variable {α:Type} {e x:α}
end
section
variable {α β γ δ ε:Type} {r:ε}
theorem bS2 {o:Option α} {f:α->Option β} {g:α->β->Option ε} (h:(o.bind fun x=>(f x).bind (g x))=some r): ∃ x,o=some x/\ ∃ y,f x=some y/\g x y=some r:=by obtain⟨x,hx,h⟩:=bS h;simp_all [bS]
end
section
variable {P:Program} {F:Fr} {st:St} {K:St->Prop}
theorem iC {cc:Operand} {x y:Code} {Q:Exit->St->Prop} {β:Type} {b:Bool} {X Y:Option β} {r:β} (h:(if b then X else Y)=some r) (h1:X=some r->Ak P F x st Q) (h2:Y=some r->Ak P F y st Q) (hc:st.ev cc= .c (.bool b):=by kernel_rfl):Ak P F (.cond cc x y) st Q:=
 Ak.ifB b hc (by grind) (by grind)
end
theorem Cm.bo {P:Program} {I:World->Prop} (ac7:GX I) {f:FuncId} {fn:Func} {c:Code} {args:List V} {Q:V->Prop} {n:Nat} (hf:P.funcs[f]? =some fn) (hb:fn.body=some c) (hn:fn.ntmps=n) (rs:List ResultVar)
 (h: ∀ w0 av Tc gv,Ak P ⟨w0,av,Tc,I,gv⟩ c (St.start args n) (fun e an=>(e= .normal \/e= .ret)/\(CZ P an rs).1/\(CZ P an rs).2.pure =true/\Q (CZ P an rs).2))
 (aao:PL.ent P f=true:=by kernel_rfl) (hr:fn.results=rs.toArray:=by kernel_rfl):Cm P I f args Q:=Cm.body ac7 aao hf hb hn hr rfl h
end Go.PL
namespace Go.PL
open Go Go.RowKit
end Go.PL
namespace Go.PL
open Go Go.RowKit
def ZS (I:World->Prop) (g:Nat) (tab:List (List UInt8)):Prop:= ∀ w,I w-> ∃ T fz,w.heap[g]? =some (.cells (tab.map fun s=>Value.string ⟨s.toArray⟩).toArray T fz)
theorem R.I {F:Fr} {st:St} {a:Act} {w:World} {G:Ax} (h:R F st a w G):F.I w:=h.inv w h.hsize h.ext
theorem dE {I:World->Prop} {g:Nat} {tab:List (List UInt8)} (h:ZS I g tab) {w:World} (hw:I w) {i:Nat} (hi:i<tab.length):w.cell? ⟨g,i,none⟩=some (.string ⟨(tab.getD i []).toArray⟩):=by obtain⟨T,fz,hh⟩:=h w hw;grind [World.cell?]
section
variable {P:Program} {I:World->Prop} {o:Oper} {st:St} {K:St->Prop}
theorem El.aml {t:TypeId} {x:Operand} {g n:Nat} {k:IntKind} {i:Int} {E:TypeId} (ho:o.op= .indexAddr t (.global g) x) (hi:0<=i/\i<n) (hK:K (st.put o.dst (.c (.acE g i.toNat))))
 (hx:st.ev x= .c (.int k i):=by kernel_rfl) (ht:C6 P t=some (n,E,1):=by kernel_rfl):El P I o st K:=by
 intro F a w G Q hI hR;have H_:=hR.ev x;rw [hx]at H_;simp only [Aa,Ab]at H_;have h_:(execOp a.eval o).run P w= .ok (.value (.pointer (some ⟨g,i.toNat,none⟩))) w:=by have:=C7 ht g 0 k i hi.1 hi.2 w;rw [zero_add,Nat.mul_one]at this;have hgl:a.eval (.global g)= .pointer (some ⟨g,0,none⟩):=rfl;simp_all [execOp]
 exact Au h_ ⟨_,G,hK,hR.put (by simp only [Aa,Ab])⟩
theorem El.amk {t:TypeId} {x:Operand} {g off:Nat} {tab:List (List UInt8)} (ho:o.op= .load t x) (hg:ZS I g tab) (aaC:off<tab.length) (hK:K (st.put o.dst (.c (.str (tab.getD off [])))))
 (hx:st.ev x= .c (.acE g off):=by kernel_rfl) (ht:FW P t=some (false,1):=by kernel_rfl):El P I o st K:=by
 intro F a w G Q hI hR;have H_:=hR.ev x;rw [hx]at H_;simp only [Aa,Ab]at H_;obtain⟨d,i,hu,hd,_⟩:=Bw ht;have hc:=dE hg (hI▸hR.I) aaC;have h_:(execOp a.eval o).run P w= .ok (.value (.string ⟨(tab.getD off []).toArray⟩)) w:=by simp_all [execOp,Cv]
 exact Au h_ ⟨_,G,hK,hR.put (by simp only [Aa,Ab])⟩
end
end Go.PL
namespace Go.PL
open Go Go.RowKit
section
variable {α:Type} {l l':List (List α)} {i j:Int} {x:List α} {y y':α} {e:α->List C} {E n:Nat}
end
section
variable {P:Program} {F:Fr} {st:St}
end
end Go.PL
namespace Go.PL
open Go Go.RowKit
inductive Kd where
 | int (k:IntKind)
 | bool
 | str
 | w_ (E:Nat)
def L5 (den:Nat->Type):Kd->Type
 | .int _=>Int
 | .bool =>Bool
 | .str =>List UInt8
 | .w_ E=>List (den E)
def DK (den:Nat->Type):List Kd->Type
 | []=>Unit
 | k::ks=>L5 den k×DK den ks
def AW {den:Nat->Type} (enc: ∀ E,den E->List C):(k:Kd)->L5 den k->C
 | .int k,n=> .int k n
 | .bool,b=> .bool b
 | .str,s=> .str s
 | .w_ E,l=> .sl l.length (List.flatMap (enc E) l)
def Bd {den:Nat->Type} (enc: ∀ E,den E->List C):(ks:List Kd)->DK den ks->List C
 | [],_=>[]
 | k::ks,x=>AW enc k x.1::Bd enc ks x.2
structure AX where
 den:Nat->Type
 inh: ∀ E,Inhabited (den E)
 enc: ∀ E,den E->List C
 ks:Nat->List Kd
 un: ∀ E,den E->DK den (ks E)
 bd: ∀ E,DK den (ks E)->den E
 beq: ∀ E,den E->den E->Bool
 ab7: ∀ E y,un E (bd E y)=y
 V_: ∀ E x,Bd enc (ks E) (un E x)=enc E x
 aeh: ∀ E x y,beq E x y=Bo (enc E x) (enc E y)
variable {T:AX}
instance (E:Nat):Inhabited (T.den E):=T.inh E
def AX.sz (T:AX) (E:Nat):Nat:=(T.ks E).length
inductive DC (T:AX) where
 | c (x:C)
 | k (kd:Kd) (x:L5 T.den kd)
 | ip (E:Nat) (l:List (T.den E)) (i:Int) (x:T.den E) (off:Nat)
 | rp (id:Ad) (N:Nat) (i:Int) (off:Nat)
 | ap (id:Ad) (base n E:Nat) (i:Int) (off:Nat)
 | bs (id:Ad) (E:Nat) (o n:Int)
 | clo (b:Bool) (f:FuncId) (cs:List (DC T))
mutual
def DC.toC:DC T->C
 | .c x=>x
 | .k kd x=>AW T.enc kd x
 | .ip E l i _ off=> .aaq (l.flatMap (T.enc E)) (i.toNat*T.sz E+off)
 | .rp id N i off=> .ptr id (i.toNat*N+off)
 | .ap id base _ E i off=> .ptr id (base+i.toNat*T.sz E+off)
 | .bs id E o n=> .rsl id (T.sz E) o.toNat n.toNat
 | .clo true f cs=> .bmv f (Ap cs)
 | .clo false f cs=> .clo f (Ap cs)
def Ap:List (DC T)->List C
 | []=>[]
 | c::cs=>c.toC::Ap cs
end
theorem BT: ∀ cs:List (DC T),Ap cs=cs.map DC.toC
 | []=>by simp [Ap]
 | c::cs=>by simp [Ap,BT cs]
structure GL where
 t:Nat
 w:Bool
 b:Bool
def AO:List GL->Bool
 | []=>true
 | [l]=>l.b
 | l::l'::ls=>AO (l'::ls)&&l.b
theorem G6: ∀ {k:List GL},AO k=true↔ ∀ l∈k,l.b=true
 | []=>by simp [AO]
 | [l]=>by simp [AO]
 | l::l'::ls=>by simp only [AO,and_eq_true,G6 (k:=l'::ls),mem_cons];grind
inductive DV (T:AX) where
 | c (x:DC T)
 | agg (cs:List (DC T))
 | tup (vs:List (DV T))
 | g (key:List GL) (v:DV T)
 | u
mutual
def DV.toV:DV T->V
 | .c x=> .c x.toC
 | .agg cs=> .agg (Ap cs)
 | .tup vs=> .tup (AQ vs)
 | .g key v=> .g (AO key) v.toV
 | .u => .undef
def AQ:List (DV T)->List V
 | []=>[]
 | v::vs=>v.toV::AQ vs
end
theorem KZ: ∀ vs:List (DV T),AQ vs=vs.map DV.toV
 | []=>by simp [AQ]
 | v::vs=>by simp [AQ,KZ vs]
def T6 (T:AX):(k:Kd)->L5 T.den k->C
 | .w_ E,l=> .isl E (T.sz E) l.length (List.flatMap (T.enc E) l)
 | .int k,n=> .int k n
 | .bool,b=> .bool b
 | .str,s=> .str s
def Bj (T:AX):(ks:List Kd)->DK T.den ks->List C
 | [],_=>[]
 | k::ks,x=>T6 T k x.1::Bj T ks x.2
def AX.Z_ (T:AX) (E:Nat) (x:T.den E):List C:=Bj T (T.ks E) (T.un E x)
def Av (T:AX) (E:Nat) (n:Int):Int->List (T.den E)->List C
 | _,[]=>[]
 | k,x::l=>(if k<n then T.Z_ E x else T.enc E x)++Av T E n (k+1) l
def A2 (T:AX) (E:Nat) (n:Int) (l:List (T.den E)):Option (Int×Nat)->List C
 | none=>Av T E n 0 l
 | some (i,off)=>(Av T E n 0 l).set (i.toNat*T.sz E+off) .any
inductive DX (T:AX) where
 | box (cs:List (DC T))
 | row (E:Nat) (l:List (T.den E))
 | deep (E:Nat) (n:Int) (l:List (T.den E)) (h:Option (Int×Nat))
structure DE (T:AX) where
 id:Ad
 tag:Nat
 x:DX T
def DE.toE (e:DE T):Ar:=match e.x with
 | .box cs=>⟨e.id,none,Ap cs,false⟩
 | .row E l=>⟨e.id,some (E,T.sz E,l.length),l.flatMap (T.enc E),true⟩
 | .deep E n l h=>⟨e.id,some (E,T.sz E,l.length),A2 T E n l h,true⟩
theorem DE.toE_id (e:DE T):e.toE.id=e.id:=by grind [DE.toE]
abbrev Tm (T:AX):=List (Nat×Nat×DV T)
def lk:Tm T->Nat->DV T
 | [],_=> .u
 | (s,_,v)::r,i=>match Nat.beq s i with
   | true=>v
   | false=>lk r i
def T7:Tm T->Nat->Nat
 | [],_=>0
 | (s,t,_)::r,i=>match Nat.beq s i with
   | true=>t+1
   | false=>T7 r i
def Aw (m:Nat) (tm:Tm T):List V:=(List.range m).map fun i=>(lk tm i).toV
structure Ac (T:AX) where
 m:Nat
 tm:Tm T
 so:List (DE T)
 gh:List (Nat×Tm T)
 pre:Ad
 nx:Nat
def Ac.toSt (st:Ac T):St:=⟨Aw st.m st.tm,st.so.map DE.toE,st.gh.flatMap fun f=>Aw f.1 f.2,st.pre⟩
mutual
def DC.ok:DC T->Prop
 | .ip _ l i x _=>idx l i=some x
 | .bs _ _ o n=>0<=o/\0<=n
 | .clo _ _ cs=>Bx cs
 | _=>True
def Bx:List (DC T)->Prop
 | []=>True
 | c::cs=>c.ok/\Bx cs
end
theorem Cp: ∀ {cs:List (DC T)},Bx cs↔ ∀ c∈cs,c.ok
 | []=>by simp [Bx]
 | c::cs=>by simp [Bx,Cp (cs:=cs)]
structure Aq (T:AX) where
 v:Nat->DV T
 e:Nat->DE T
def ZT:DV T->Bool
 | .c (.k .bool b)=>b
 | .g _ (.c (.k .bool b))=>b
 | _=>false
def GL.ok (H:Aq T) (nx:Nat) (l:GL):Prop:=l.t<nx/\l.b=(ZT (H.v l.t)==l.w)
mutual
def DV.ok (H:Aq T) (nx:Nat):DV T->Prop
 | .c x=>x.ok
 | .agg cs=>Bx cs
 | .tup vs=>B7 H nx vs
 | .g key v=>(∀ l∈key,l.ok H nx)/\(AO key=true->v.ok H nx)
 | .u =>True
def B7 (H:Aq T) (nx:Nat):List (DV T)->Prop
 | []=>True
 | v::vs=>v.ok H nx/\B7 H nx vs
end
theorem K0 {H:Aq T} {nx:Nat}: ∀ {vs:List (DV T)},B7 H nx vs↔ ∀ v∈vs,v.ok H nx
 | []=>by simp [B7]
 | c::cs=>by simp [B7,K0 (vs:=cs)]
def Ng (H:Aq T) (nx:Nat) (tm:Tm T):Prop:= ∀ s t v,(s,t,v)∈tm->t<nx/\H.v t=v/\v.ok H nx
def DX.ok:DX T->Prop
 | .box cs=>Bx cs
 | .row _ _=>True
 | .deep .. =>True
structure Ay (H:Aq T) (st:Ac T):Prop where
 tm:Ng H st.nx st.tm
 gh: ∀ f∈st.gh,Ng H st.nx f.2
 so: ∀ e∈st.so,e.tag<st.nx/\H.e e.tag=e/\e.x.ok
 nd:(st.so.map DE.id).Nodup
def Ch (nx:Nat) (H H':Aq T):Prop:= ∀ t,t<nx->H'.v t=H.v t/\H'.e t=H.e t
theorem Ch.refl (nx:Nat) (H:Aq T):Ch nx H H:=fun _ _=>⟨rfl,rfl⟩
theorem Ch.trans {n m:Nat} {A B D:Aq T} (h:Ch n A B) (k:Ch m B D) (hnm:n<=m):Ch n A D:=fun t ht=>
 ⟨(k t (by grind)).1.trans (h t ht).1,(k t (by grind)).2.trans (h t ht).2⟩
theorem GL.aa1 {H H':Aq T} {n m:Nat} (he:Ch n H H') (hnm:n<=m) {l:GL} (h:l.ok H n):l.ok H' m:=
 ⟨Nat.lt_of_lt_of_le h.1 hnm,by rw [(he l.t h.1).1];exact h.2⟩
mutual
theorem DV.aa1 {H H':Aq T} {n m:Nat} (he:Ch n H H') (hnm:n<=m): ∀ {v:DV T},v.ok H n->v.ok H' m
 | .c _,h=>by grind [DV.ok]
 | .agg _,h=>by grind [DV.ok]
 | .tup vs,h=>by simp only [DV.ok]at h ⊢;exact dF he hnm h
 | .g key v,h=>by simp only [DV.ok]at h ⊢;exact⟨fun l hl=>GL.aa1 he hnm (h.1 l hl),fun q=>DV.aa1 he hnm (h.2 q)⟩
 | .u,_=>by simp only [DV.ok]
theorem dF {H H':Aq T} {n m:Nat} (he:Ch n H H') (hnm:n<=m): ∀ {vs:List (DV T)},B7 H n vs->B7 H' m vs
 | [],_=>by simp only [B7]
 | v::vs,h=>by simp only [B7]at h ⊢;exact⟨DV.aa1 he hnm h.1,dF he hnm h.2⟩
end
theorem Bn {H H':Aq T} {n m:Nat} (he:Ch n H H') (hnm:n<=m) {tm:Tm T} (h:Ng H n tm):Ng H' m tm:=fun s t v hm=>by obtain⟨h1,h2,h3⟩:=h s t v hm;exact⟨(by grind),by rw [(he t h1).1];exact h2,DV.aa1 he hnm h3⟩
theorem Oa (tm:Tm T) (i:Nat):lk tm i= .u /\T7 tm i=0\/ ∃ t,(i,t,lk tm i)∈tm/\T7 tm i=t+1:=by
 induction tm with
 | nil=>exact .inl ⟨rfl,rfl⟩
 | cons x r ih=>
   obtain⟨s,t,v⟩:=x;simp only [lk,T7];cases hb:Nat.beq s i with
   | true=>
     simp_all
   | false=>
     grind
theorem Acp {H:Aq T} {nx:Nat} {tm:Tm T} (h:Ng H nx tm) (i:Nat):(lk tm i).ok H nx:=by
 rcases Oa tm i with ⟨h1,_⟩ | ⟨t,h1,_⟩
 ·grind [DV.ok]
 ·exact(h i t _ h1).2.2
theorem T8 {H:Aq T} {nx:Nat} {tm:Tm T} (h:Ng H nx tm) {i t:Nat} (ht:T7 tm i=t+1):t<nx/\H.v t=lk tm i:=by
 rcases Oa tm i with ⟨_,h1⟩ | ⟨t',h1,h2⟩
 ·grind
 ·rw [h2]at ht;injection ht with ht;subst ht;obtain⟨a,b,_⟩:=h i t' _ h1;grind
def Rh:Value->Option (DC T)
 | .int k n=>some (.k (.int k) n)
 | .bool b=>some (.k .bool b)
 | .string s=>some (.k .str s.data.toList)
 | v=>match B3 v with
   | some c=>some (.c c)
   | none=>none
def G7:List Value->Option (List (DC T))
 | []=>some []
 | v::vs=>match Rh v,G7 vs with
   | some c,some cs=>some (c::cs)
   | _,_=>none
def PU:Value->DV T
 | .agg cs=>match G7 cs.toList with
   | some l=> .agg l
   | none=> .u
 | v=>match Rh v with
   | some c=> .c c
   | none=> .u
theorem T9 {v:Value} {c:DC T} (h:Rh v=some c):B3 v=some c.toC/\c.ok:=by
 unfold Rh at h;split at h
 ·injection h with h;subst h;exact⟨rfl,by simp only [DC.ok]⟩
 ·injection h with h;subst h;exact⟨rfl,by simp only [DC.ok]⟩
 ·injection h with h;subst h;exact⟨rfl,by simp only [DC.ok]⟩
 grind [DC.toC,DC.ok]
theorem Ua {v:Value} (h:Rh (T:=T) v=none):B3 v=none:=by unfold Rh at h;grind
theorem K1: ∀ {vs:List Value} {cs:List (DC T)},G7 vs=some cs->CY vs=some (Ap cs)/\Bx cs
 | [],cs,h=>by grind [G7,CY,Ap,Bx]
 | v::vs,cs,h=>by
   unfold G7 at h;split at h
   ·rename_i c Tk h1 h2;injection h with h;subst h;obtain⟨a,b⟩:=T9 h1;obtain⟨a',b'⟩:=K1 h2;simp [CY,a,a',Ap,Bx,b,b']
   ·cases h
theorem Ri: ∀ {vs:List Value},G7 (T:=T) vs=none->CY vs=none
 | [],h=>by simp [G7]at h
 | v::vs,h=>by
   unfold G7 at h;split at h
   ·cases h
   ·rename_i n_;unfold CY;cases h1:Rh (T:=T) v with
    | none=>rw [Ua h1]
    | some c=>
      cases h2:G7 (T:=T) vs with
      | none=>rw [Ri h2];cases B3 v<;>rfl
      | some cs=>exact(n_ c cs h1 h2).elim
theorem Rj (v:Value) {H:Aq T} {nx:Nat}:(PU (T:=T) v).toV =Jn v/\(PU (T:=T) v).ok H nx:=by
 cases v
 case agg cs=>
  simp only [PU,Jn];cases h:G7 (T:=T) cs.toList with
  | some l=>
    obtain⟨a,b⟩:=K1 h;simp_all [DV.toV,DV.ok]
  | none=>simp only [Ri h,DV.toV,DV.ok];grind
 all_goals
  simp only [PU,Jn];split
  ·rename_i c h;obtain⟨a,b⟩:=T9 h;simp only [a,DV.toV,DV.ok];exact⟨trivial,b⟩
  ·rename_i h;simp only [Ua h,DV.toV,DV.ok];exact(by grind)
def Ac.get (st:Ac T) (t:Nat):DV T:=match Nat.blt t st.m with
 | true=>lk st.tm t
 | false=> .u
def Ac.ev (st:Ac T):Operand->DV T
 | .tmp t=>st.get t
 | .const v=>PU v
 | .func f=> .c (.c (.fn f))
 | .global _=> .u
theorem IV (m:Nat) (tm:Tm T) (t:Nat):(Aw m tm).getD t .undef =(match Nat.blt t m with | true=>(lk tm t).toV | false=> .undef):=by
 unfold Aw;rw [getD_eq_getElem?_getD,getElem?_map];cases hb:Nat.blt t m with
 | true=>
   simp_all
 | false=>
   have: ¬t<m:=by
    intro h;have h2:Nat.blt t m=true:=by simpa using h
    grind
   grind
theorem Ac.aaa (st:Ac T) (t:Nat):st.toSt.get t=(st.get t).toV :=by show (Aw st.m st.tm).getD t .undef =_;grind [IV,Ac.get,DV.toV]
theorem Ac.acW {H:Aq T} {st:Ac T} (h:Ay H st) (t:Nat):(st.get t).ok H st.nx:=by
 unfold Ac.get;split
 ·exact Acp h.tm t
 ·simp only [DV.ok]
theorem Ac.aat (st:Ac T) (x:Operand):st.toSt.ev x=(st.ev x).toV :=by
 cases x with
 | tmp t=>exact st.aaa t
 | const v=>exact(Rj (T:=T) v (H:=⟨fun _=> .u,fun _=>⟨[],0, .box []⟩⟩) (nx:=0)).1.symm
 | func f=>simp only [St.ev,Ac.ev,DV.toV,DC.toC]
 | global g=>simp only [St.ev,Ac.ev,DV.toV]
theorem Ac.afW {H:Aq T} {st:Ac T} (h:Ay H st) (x:Operand):(st.ev x).ok H st.nx:=by cases x<;>grind [Ac.acW,Rj,Ac.ev,DV.ok,DC.ok]
def GL.eq (a b:GL):Bool:=Nat.beq a.t b.t&&(a.w==b.w)
def Ub (l:GL):List GL->Bool
 | []=>false
 | a::r=>match GL.eq l a with
   | true=>true
   | false=>Ub l r
def Nh:List GL->List GL->Bool
 | [],_=>true
 | l::ls,k=>match Ub l k with
   | true=>Nh ls k
   | false=>false
def DJ (H:Aq T) (nx:Nat) (k:List GL):Prop:= ∀ l∈k,l.ok H nx
theorem GL.api {H:Aq T} {nx:Nat} {a b:GL} (h:a.eq b=true) (ha:a.ok H nx) (hb:b.ok H nx):a.b=b.b:=by simp only [GL.eq,and_eq_true,beq_eq,beq_iff_eq]at h;rw [ha.2,hb.2,h.1,h.2]
theorem dG {H:Aq T} {nx:Nat} {l:GL}: ∀ {k:List GL},Ub l k=true->l.ok H nx->DJ H nx k->AO k=true->l.b=true
 | [],h,_,_,_=>by simp [Ub]at h
 | a::r,h,hl,hk,hc=>by
   unfold Ub at h;have hc':=G6.1 hc;split at h
   ·rename_i he;rw [GL.api he hl (hk a (by simp))];exact hc' a (by simp)
   ·exact dG h hl (fun x hx=>hk x (by simp [hx])) (G6.2 fun x hx=>hc' x (by simp [hx]))
theorem K2 {H:Aq T} {nx:Nat}: ∀ {ls k:List GL},Nh ls k=true->DJ H nx ls->DJ H nx k->AO k=true->AO ls=true
 | [],_,_,_,_,_=>rfl
 | l::ls,k,h,h1,h2,hc=>by
   unfold Nh at h;split at h
   ·rename_i hh;have a:=dG hh (h1 l (by simp)) h2 hc;have b:=K2 h (fun x hx=>h1 x (by simp [hx])) h2 hc;refine G6.2 fun x hx=>?_;rcases mem_cons.1 hx with rfl | hx
    all_goals grind [G6]
   ·cases h
def Ac.arg (st:Ac T) (key:List GL) (x:Operand):Option (DV T):=match st.ev x with
 | .g k v=>match Nh k key with
   | true=>some v
   | false=>none
 | v=>some v
theorem Ac.abW {H:Aq T} {st:Ac T} {key:List GL} {x:Operand} {v:DV T} (hw:Ay H st) (hk:DJ H st.nx key) (h:st.arg key x=some v) (hc:AO key=true):
 v.ok H st.nx/\(st.toSt.arg (AO key) x).1/\(st.toSt.arg (AO key) x).2=v.toV:=by
 have hev:=Ac.afW hw x;have e:=st.aat x;unfold Ac.arg at h;unfold St.arg;split at h
 ·rename_i k v' hx;split at h
  ·rename_i hs;injection h with h;subst h;rw [hx]at e hev;simp only [DV.ok]at hev;simp only [DV.toV]at e;rw [e];have:=K2 hs hev.1 hk hc;grind
  ·cases h
 ·rename_i n_;injection h with h;subst h;refine⟨hev,?_⟩;rw [e];cases hv:st.ev x<;>simp_all [DV.toV]
def M (α:Type):=(R:Type)->(α->Option R)->Option R
namespace M
variable {α β:Type}
def ret (v:α):M α:=fun _ K=>K v
def no:M α:=fun _ _=>none
def sm (o:Option α):M α:=fun _ K=>match o with
 | some v=>K v
 | none=>none
def opt (o:Option β) (f:β->M α):M α:=fun R K=>o.bind fun x=>f x R K
def y_ (m:M β) (f:β->M α):M α:=fun R K=>m R fun x=>f x R K
end M
def Yl {α:Type} (m:M α) (Φ:α->Prop):Prop:= ∀ (R:Type) (K:α->Option R) (r:R),m R K=some r-> ∃ v,Φ v/\K v=some r
namespace Yl
variable {α β:Type} {Φ:α->Prop}
theorem ret {v:α} (h:Φ v):Yl (M.ret v) Φ:=fun _ _ _ hr=>⟨v,h,hr⟩
theorem no:Yl (M.no) Φ:=fun _ _ _ hr=>by cases hr
theorem sm {o:Option α} (h: ∀ v,o=some v->Φ v):Yl (M.sm o) Φ:=fun R K r hr=>by unfold M.sm at hr;grind
theorem opt {o:Option β} {f:β->M α} (h: ∀ x,o=some x->Yl (f x) Φ):Yl (M.opt o f) Φ:=fun R K r hr=>by unfold M.opt at hr;obtain⟨x,h1,h2⟩:=bS hr;exact h x h1 R K r h2
theorem y_ {m:M β} {f:β->M α} {Ψ:β->Prop} (hm:Yl m Ψ) (h: ∀ x,Ψ x->Yl (f x) Φ):Yl (M.y_ m f) Φ:=fun R K r hr=>by obtain⟨v,h1,h2⟩:=hm R _ r hr;exact h v h1 R K r h2
theorem mono {m:M α} {Ψ:α->Prop} (hm:Yl m Ψ) (h: ∀ x,Ψ x->Φ x):Yl m Φ:=fun R K r hr=>by obtain⟨v,h1,h2⟩:=hm R K r hr;grind
end Yl
def gk {α:Type} [Inhabited α] (key:List GL) (o:Option α):Option α:=match key with
 | []=>o
 | l::ls=>gd (AO (l::ls)) o
theorem Ob {α:Type} [Inhabited α] {key:List GL} {o:Option α} {x:α} (h:gk key o=some x) (hc:AO key=true):o=some x:=by unfold gk at h;grind [qx]
end Go.PL
namespace Go.PL
open Go Go.RowKit
variable {T:AX}
def Rk {den:Nat->Type} {T:AX} (h: ∀ k,L5 den k->DC T):(ks:List Kd)->DK den ks->List (DC T)
 | [],_=>[]
 | k::ks,x=>h k x.1::Rk h ks x.2
def ZU (E:Nat) (x:T.den E):List (DC T):=Rk (fun k y=> .k k y) (T.ks E) (T.un E x)
theorem Uc: ∀ (ks:List Kd) (y:DK T.den ks),Ap (Rk (T:=T) (fun k y=> .k k y) ks y)=Bd T.enc ks y
 | [],_=>by simp [Rk,Ap,Bd]
 | k::ks,y=>by simp only [Rk,Ap,Bd,Uc ks,DC.toC]
theorem Eo (E:Nat) (x:T.den E):Ap (ZU E x)=T.enc E x:=by rw [ZU,Uc,T.V_]
theorem dH: ∀ (ks:List Kd) (y:DK T.den ks),Bx (Rk (T:=T) (fun k y=> .k k y) ks y)
 | [],_=>by simp [Rk,Bx]
 | k::ks,y=>by simp only [Rk,Bx,DC.ok];exact⟨trivial,dH ks y.2⟩
theorem JA (E:Nat) (x:T.den E):Bx (ZU E x):=dH _ _
theorem X0 {den:Nat->Type} {enc: ∀ E,den E->List C}: ∀ (ks:List Kd) (y:DK den ks),(Bd enc ks y).length =ks.length
 | [],_=>rfl
 | k::ks,y=>by simp [Bd,X0 ks]
theorem AG (E:Nat) (x:T.den E):(T.enc E x).length =T.sz E:=by rw [<-T.V_,X0];rfl
theorem Ud {den:Nat->Type} {enc: ∀ E,den E->List C} (k:Kd) (x:L5 den k):(AW enc k x).pure =true:=by cases k<;>rfl
theorem Ue {den:Nat->Type} {enc: ∀ E,den E->List C}: ∀ (ks:List Kd) (y:DK den ks),Al (Bd enc ks y)=true
 | [],_=>rfl
 | k::ks,y=>by simp only [Bd,Al,Ud,Ue ks,Bool.and_self]
theorem Uf (E:Nat) (x:T.den E):Al (T.enc E x)=true:=by rw [<-T.V_];exact Ue _ _
theorem nZ (E:Nat) (l:List (T.den E)):Al (l.flatMap (T.enc E))=true:=CS _ (Uf E) l
def Fz (P_:Bool):(k:Kd)->DC T->Option (L5 T.den k)
 | .int k, .k (.int k') n=>match k'==k with
   | true=>some n
   | false=>none
 | .bool, .k .bool b=>some b
 | .str, .k .str s=>some s
 | .w_ E, .k (.w_ E') l=>match Nat.decEq E' E with
   | .isTrue h=>some (show List (T.den E)from h▸l)
   | .isFalse _=>none
 | .w_ E, .c (.sl 0 [])=>some ([]:List (T.den E))
 | .w_ E, .c .P_ =>match P_ with
   | true=>some ([]:List (T.den E))
   | false=>none
 | _,_=>none
def X1 (P_:Bool):(ks:List Kd)->List (DC T)->Option (DK T.den ks)
 | [],[]=>some ()
 | k::ks,c::cs=>match Fz P_ k c,X1 P_ ks cs with
   | some x,some y=>some (x,y)
   | _,_=>none
 | _,_=>none
def pY (P_:Bool) (E:Nat) (cs:List (DC T)):Option (T.den E):=match X1 P_ (T.ks E) cs with
 | some y=>some (T.bd E y)
 | none=>none
theorem BP {P_:Bool} {k:Kd} {c:DC T} {x:L5 T.den k} (h:Fz P_ k c=some x):EJ c.toC=AW T.enc k x/\(P_=false->c.toC=AW T.enc k x):=by
 unfold Fz at h;split at h
 ·split at h
  ·rename_i hb;have:=beq_iff_eq.1 hb;subst this;injection h with h;subst h;exact⟨rfl,fun _=>rfl⟩
  ·cases h
 ·injection h with h;subst h;exact⟨rfl,fun _=>rfl⟩
 ·injection h with h;subst h;exact⟨rfl,fun _=>rfl⟩
 ·split at h
  ·rename_i e _;subst e;injection h with h;subst h;exact⟨rfl,fun _=>rfl⟩
  ·cases h
 ·injection h with h;subst h;exact⟨rfl,fun _=>rfl⟩
 ·split at h
  ·injection h with h;subst h;exact⟨rfl,fun q=>by cases q⟩
  ·cases h
 ·cases h
theorem Ug {P_:Bool}: ∀ {ks:List Kd} {cs:List (DC T)} {y:DK T.den ks},X1 P_ ks cs=some y->(Ap cs).map EJ=Bd T.enc ks y/\(P_=false->Ap cs=Bd T.enc ks y)
 | [],[],y,_=>by simp [Ap,Bd]
 | [],_::_,_,h=>by simp [X1]at h
 | _::_,[],_,h=>by simp [X1]at h
 | k::ks,c::cs,y,h=>by
   unfold X1 at h;split at h
   ·rename_i x y' h1 h2;injection h with h;subst h;obtain⟨a1,a2⟩:=BP h1;obtain⟨b1,b2⟩:=Ug h2;simp_all [Ap,Bd]
   ·cases h
theorem FA {P_:Bool} {E:Nat} {cs:List (DC T)} {x:T.den E} (h:pY P_ E cs=some x):(Ap cs).map EJ=T.enc E x/\(P_=false->Ap cs=T.enc E x):=by
 unfold pY at h;split at h
 ·rename_i y hy;injection h with h;subst h;rw [<-T.V_,T.ab7];exact Ug hy
 ·cases h
def Il (E:Nat):Nat->List (DC T)->Option (List (T.den E))
 | 0,_=>some []
 | n+1,cs=>match pY false E (cs.take (T.sz E)),Il E n (cs.drop (T.sz E))with
   | some x,some l=>some (x::l)
   | _,_=>none
theorem Gx (n:Nat) (cs:List (DC T)):Ap (cs.take n)=(Ap cs).take n:=by simp [BT,List.map_take]
theorem Eb (n:Nat) (cs:List (DC T)):Ap (cs.drop n)=(Ap cs).drop n:=by simp [BT,List.map_drop]
theorem BY (a b:List (DC T)):Ap (a++b)=Ap a++Ap b:=by simp [BT]
theorem AC (a:List (DC T)):(Ap a).length =a.length:=by simp [BT]
theorem De {E:Nat}: ∀ {n:Nat} {cs:List (DC T)} {l:List (T.den E)},Il E n cs=some l->l.length=n/\ ∃ r,Ap cs=l.flatMap (T.enc E)++r
 | 0,cs,l,h=>by simp [Il]at h;simp_all
 | n+1,cs,l,h=>by
   unfold Il at h;split at h
   ·rename_i x l' h1 h2;injection h with h;subst h;have a:=(FA h1).2 rfl;obtain⟨b1,r,b2⟩:=De h2;refine⟨by simp [b1],r,?_⟩;rw [Gx]at a;rw [Eb]at b2;rw [flatMap_cons,List.append_assoc, <-b2, <-a,List.take_append_drop]
   ·cases h
def Cd (ag:Bool) (off n:Nat) (cs:List (DC T)):DV T:=match ag with
 | true=> .agg ((cs.drop off).take n)
 | false=> .c (cs.getD off (.c .any))
theorem EX (ag:Bool) (off n:Nat) (cs:List (DC T)):(Cd ag off n cs).toV =toV ag off n (Ap cs):=by
 cases ag
 ·simp only [Cd,DV.toV,toV,BT];rw [if_neg (by simp),getD_eq_getElem?_getD,getD_eq_getElem?_getD,getElem?_map];grind [DC.toC]
 grind [Cd,DV.toV,toV,Gx,Eb]
theorem PV {cs:List (DC T)} (h:Bx cs) (n:Nat):Bx (cs.take n):=(by grind [Cp])
theorem PW {cs:List (DC T)} (h:Bx cs) (n:Nat):Bx (cs.drop n):=(by grind [Cp])
theorem Cq {a b:List (DC T)} (h:Bx a) (k:Bx b):Bx (a++b):=(by grind [Cp])
theorem FB {H:Aq T} {nx:Nat} (ag:Bool) (off n:Nat) {cs:List (DC T)} (h:Bx cs):(Cd ag off n cs).ok H nx:=by cases ag<;>grind [Cd,DV.ok,DC.ok,Cp]
def AP:Ad->Ad->Bool
 | [],[]=>true
 | a::x,b::y=>match Nat.beq a b with
   | true=>AP x y
   | false=>false
 | _,_=>false
theorem AE: ∀ {a b:Ad},AP a b=true↔a=b
 | [],[]=>by simp [AP]
 | [],_::_=>by simp [AP]
 | _::_,[]=>by simp [AP]
 | a::x,b::y=>by
   unfold AP;cases h:Nat.beq a b with
   | true=>
     have:=Nat.eq_of_beq_eq_true h;subst this;simp [AE (a:=x) (b:=y)]
   | false=>
     have:a ≠ b:=fun e=>by subst e;simp at h
     simp [this]
def lN:List (DC T)->Bool
 | [.c (.mp _)]=>true
 | _=>false
def EK:List (DE T)->Ad->Option (DE T)
 | [],_=>none
 | e::r,id=>match AP e.id id with
   | true=>some e
   | false=>EK r id
def DX.isM:DX T->Bool
 | .box cs=>lN cs
 | .row _ _=>false
 | .deep .. =>false
def Ac.look (st:Ac T) (id:Ad):Option (DX T):=match Cf id||DF id with
 | true=>none
 | false=>match EK st.so id with
   | some e=>match e.x.isM with
     | true=>none
     | false=>some e.x
   | none=>none
theorem B8: ∀ {l:List (DE T)} {id:Ad} {e:DE T},EK l id=some e->e∈l/\e.id=id/\ ∀ p:Ar->Bool,(∀ x:DE T,x.id ≠ id->p x.toE=false)->p e.toE=true->(l.map DE.toE).find? p=some e.toE
 | [],_,_,h=>by simp [EK]at h
 | x::r,id,e,h=>by
   unfold EK at h;split at h
   ·rename_i hb;injection h with h;subst h;exact⟨by simp,AE.1 hb,fun p _ hp=>by simp [List.find?_cons,hp]⟩
   ·rename_i hb;obtain⟨h1,h2,h3⟩:=B8 h;refine⟨by simp [h1],h2,fun p hp he=>?_⟩;have n_:x.id ≠ id:=fun q=>by rw [AE.2 q]at hb;cases hb
    rw [map_cons,List.find?_cons,hp x n_];exact h3 p hp he
theorem X2 {cs:List (DC T)} (h:lN cs=false) (hk: ∀ c∈cs, ∀ kv,c.toC= .mp kv->c= .c (.mp kv)):Zo (Ap cs)=false:=by
 match cs with
 | []=>rfl
 | [c]=>
   simp only [Ap,Zo];grind [lN]
 | a::b::r=>
   simp only [Ap];generalize a.toC=x;generalize b.toC=y;generalize Ap r=z;cases x<;>rfl
theorem qF (c:DC T) (kv:List (Int×Int)) (h:c.toC= .mp kv):c= .c (.mp kv):=by
 cases c with
 | c x=>grind [DC.toC]
 | k kd x=>cases kd<;>simp [DC.toC,AW]at h
 | ip=>simp [DC.toC]at h
 | rp=>simp [DC.toC]at h
 | ap=>simp [DC.toC]at h
 | bs=>simp [DC.toC]at h
 | clo b f cs=>cases b<;>simp [DC.toC]at h
theorem Ac.ad7 {st:Ac T} {id:Ad} {x:DX T} (h:st.look id=some x): ∃ e,e∈st.so/\e.id=id/\e.x=x/\st.toSt.look id=some e.toE/\st.toSt.aaP id=some e.toE/\DF id=false/\Cf id=false:=by
 unfold Ac.look at h;split at h
 ·cases h
 ·rename_i hd;simp only [or_eq_false_iff]at hd;split at h
  ·rename_i e he;split at h
   ·cases h
   ·rename_i hm;injection h with h;subst h;obtain⟨h1,h2,h3⟩:=B8 he;have hM:e.toE.isM=false:=by
     unfold DE.toE Ar.isM;cases hx:e.x with
     | box cs=>
       rw [hx]at hm;exact X2 hm (fun c _ kv q=>qF c kv q)
     | row E l=>rfl
     | deep E n l h=>rfl
    have hid:=e.toE_id;refine⟨e,h1,h2,rfl,?_,?_,hd.2,hd.1⟩
    ·refine h3 _ (fun y hy=>?_) ?_
     all_goals grind [DE.toE_id]
    ·refine h3 _ (fun y hy=>?_) ?_
     all_goals grind [DE.toE_id]
  ·cases h
theorem DE.toE_box {e:DE T} {cs:List (DC T)} (h:e.x= .box cs):e.toE=⟨e.id,none,Ap cs,false⟩:=by unfold DE.toE;rw [h]
theorem DE.toE_row {e:DE T} {E:Nat} {l:List (T.den E)} (h:e.x= .row E l):e.toE=⟨e.id,some (E,T.sz E,l.length),l.flatMap (T.enc E),true⟩:=by unfold DE.toE;rw [h]
def DZ (ag:Bool) (off n N:Nat):Bool:=Nat.ble (off+n) N&&(ag||Nat.blt 0 n)
theorem BZ {ag:Bool} {off n N:Nat} (h:DZ ag off n N=true):off+n<=N/\(ag=true\/0<n):=by simp_all [DZ]
def G8 (st:Ac T) (id:Ad):Option (List (DC T)):=match st.look id with
 | some (.box cs)=>some cs
 | _=>none
def CI (st:Ac T) (id:Ad):Option ((E:Nat)×List (T.den E)):=match st.look id with
 | some (.row E l)=>some ⟨E,l⟩
 | _=>none
theorem EY {st:Ac T} {id:Ad} {cs:List (DC T)} (h:G8 st id=some cs):st.toSt.look id=some ⟨id,none,Ap cs,false⟩/\st.toSt.aaP id=some ⟨id,none,Ap cs,false⟩/\ ∃ e∈st.so,e.id=id/\e.x= .box cs:=by
 unfold G8 at h;split at h
 ·rename_i Tk hl;injection h with h;subst h;obtain⟨e,h1,h2,h3,h4,h5,_⟩:=Ac.ad7 hl;grind [DE.toE_box]
 ·cases h
theorem Bg {st:Ac T} {id:Ad} {E:Nat} {l:List (T.den E)} (h:CI st id=some ⟨E,l⟩):st.toSt.look id=some ⟨id,some (E,T.sz E,l.length),l.flatMap (T.enc E),true⟩/\st.toSt.aaP id=some ⟨id,some (E,T.sz E,l.length),l.flatMap (T.enc E),true⟩/\ ∃ e∈st.so,e.id=id/\e.x= .row E l:=by
 unfold CI at h;split at h
 ·rename_i E' l' hl;injection h with h;injection h with h1 h2;subst h1;have h2:=eq_of_heq h2;subst h2;obtain⟨e,h1,h2,h3,h4,h5,_⟩:=Ac.ad7 hl;grind [DE.toE_row]
 ·cases h
theorem Oc {H:Aq T} {st:Ac T} (hw:Ay H st) {id:Ad} {cs:List (DC T)} (h:G8 st id=some cs):Bx cs:=by obtain⟨_,_,e,h1,_,h3⟩:=EY h;have:=(hw.so e h1).2.2;rw [h3]at this;exact this
def G9 (st:Ac T) (id:Ad):Option ((E:Nat)×(Int×List (T.den E)×Option (Int×Nat))):=match Cf id with
 | true=>none
 | false=>match EK st.so id with
   | some e=>match e.x with
     | .deep E n l h=>some ⟨E,(n,l,h)⟩
     | _=>none
   | none=>none
theorem Br {st:Ac T} {id:Ad} {E:Nat} {n:Int} {l:List (T.den E)} {h:Option (Int×Nat)} (hr:G9 st id=some ⟨E,(n,l,h)⟩):Cf id=false/\st.toSt.aaP id=some ⟨id,some (E,T.sz E,l.length),A2 T E n l h,true⟩/\ ∃ e∈st.so,e.id=id/\e.x= .deep E n l h:=by
 unfold G9 at hr;split at hr
 ·cases hr
 ·rename_i hmk;split at hr
  ·rename_i e he;split at hr
   ·rename_i E' n' l' h' hx;injection hr with hr;injection hr with h1 h2;subst h1;have h2:=eq_of_heq h2;injection h2 with h2 h3;injection h3 with h3 h4;subst h2 h3 h4;obtain⟨a,b,c⟩:=B8 he;have hE:e.toE=⟨id,some (E',T.sz E',l'.length),A2 T E' n' l' h',true⟩:=by grind [DE.toE]
    refine⟨hmk,?_,e,a,b,hx⟩;rw [<-hE];refine c _ (fun y hy=>?_) ?_
    all_goals grind [DE.toE_id,Ar.isM]
   ·cases hr
  ·cases hr
def lO (st:Ac T) (id:Ad):Option ((E:Nat)×List (T.den E)):=match CI st id with
 | some r=>some r
 | none=>match G9 st id with
   | some ⟨E,(_,l,_)⟩=>some ⟨E,l⟩
   | none=>none
theorem Uh {st:Ac T} {id:Ad} {E:Nat} {l:List (T.den E)} (h:lO st id=some ⟨E,l⟩): ∃ e,st.toSt.aaP id=some e/\e.row=some (E,T.sz E,l.length):=by
 unfold lO at h;split at h
 ·rename_i r hr;injection h with h;subst h;exact⟨_,(Bg hr).2.1,rfl⟩
 ·split at h
  ·rename_i E' n' l' h' hr;injection h with h;injection h with h1 h2;subst h1;have h2:=eq_of_heq h2;subst h2;exact⟨_,(Br hr).2.1,rfl⟩
  ·cases h
theorem Ui: ∀ (ks:List Kd) (y:DK T.den ks),(Bj T ks y).length =ks.length
 | [],_=>rfl
 | k::ks,y=>by simp only [Bj,List.length_cons,Ui ks y.2]
theorem Df (E:Nat) (x:T.den E):(T.Z_ E x).length =T.sz E:=Ui _ _
theorem Hb (E:Nat) (n:Int): ∀ (k:Int) (l:List (T.den E)),(Av T E n k l).length =l.length*T.sz E
 | _,[]=>by simp [Av]
 | k,x::l=>by rw [Av,List.length_append,Hb E n (k+1) l,List.length_cons,add_mul,one_mul,Nat.add_comm];grind [Df,AG]
theorem DL (E:Nat) (n:Int) (l:List (T.den E)) (h:Option (Int×Nat)):(A2 T E n l h).length =l.length*T.sz E:=by unfold A2;grind [Hb]
theorem Hc {E:Nat} {n:Int}: ∀ {l:List (T.den E)} {k:Int} {i:Nat} {x:T.den E} {p:Nat},l[i]? =some x->p<T.sz E->(Av T E n k l)[i*T.sz E+p]? =(if k+i<n then T.Z_ E x else T.enc E x)[p]?
 | [],_,_,_,_,h,_=>by simp at h
 | y::l,k,0,x,p,h,hp=>by
   simp only [List.getElem?_cons_zero,injEq]at h;subst h;rw [Av,Nat.zero_mul,zero_add,List.getElem?_append_left]
   all_goals grind [Df,AG]
 | y::l,k,i+1,x,p,h,hp=>by
   have hl:(if k<n then T.Z_ E y else T.enc E y).length =T.sz E:=by grind [Df,AG]
   rw [Av,List.getElem?_append_right (by rw [hl,add_mul,one_mul];omega),hl,show (i+1)*T.sz E+p - T.sz E=i*T.sz E+p by rw [add_mul,one_mul];omega];rw [Hc (by simpa using h) hp];congr 2;push_cast;rw [show k+1+(i:Int)=k+((i:Int)+1) by omega]
def L6:Kd->Bool
 | .w_ _=>false
 | _=>true
theorem X3: ∀ {ks:List Kd} {y:DK T.den ks} {p:Nat},(∀ k,ks[p]? =some k->L6 k=true)->(Bj T ks y)[p]? =(Bd T.enc ks y)[p]?
 | [],_,_,_=>rfl
 | k::ks,y,0,h=>by have:=h k rfl;simp only [Bj,Bd,List.getElem?_cons_zero,injEq];cases k<;>first | rfl | cases this
 | k::ks,y,p+1,h=>by simp only [Bj,Bd,List.getElem?_cons_succ];exact X3 (fun k' hk=>h k' (by simpa using hk))
def dJ (h:Option (Int×Nat)) (off n:Nat):Bool:=match h with
 | none=>true
 | some (_,o)=> !(Nat.ble off o&&Nat.blt o (off+n))
def iP (T:AX) (E off n:Nat) (h:Option (Int×Nat)):Bool:=(((T.ks E).drop off).take n).all L6&&dJ h off n
theorem iQ {i j N p q:Nat} (hp:p<N) (hq:q<N) (h:i*N+p=j*N+q):p=q:=by grind [Nat.mul_comm,Nat.mul_add_mod,Nat.mod_eq_of_lt]
theorem qG {E:Nat} {nn:Int} {l:List (T.den E)} {h:Option (Int×Nat)} {i:Nat} {x:T.den E} {p:Nat} (hx:l[i]? =some x) (hp:p<T.sz E) (hf: ∀ k,(T.ks E)[p]? =some k->L6 k=true) (hh: ∀ j o,h=some (j,o)->o ≠ p/\o<T.sz E):
 (A2 T E nn l h)[i*T.sz E+p]? =(T.enc E x)[p]? :=by
 have base:(Av T E nn 0 l)[i*T.sz E+p]? =(T.enc E x)[p]? :=by
  rw [Hc hx hp];split
  ·rw [AX.Z_,X3 hf,T.V_]
  ·rfl
 unfold A2;split
 ·exact base
 ·rename_i j o;rw [List.getElem?_set_ne]
  ·exact base
  ·intro e;obtain⟨h1,h2⟩:=hh j o rfl;exact h1 (iQ h2 hp e)
theorem qH {E:Nat} {nn:Int} {l:List (T.den E)} {h:Option (Int×Nat)} {i:Int} {x:T.den E} {off n:Nat} {ag:Bool} (hx:idx l i=some x) (ho:DZ ag off n (T.sz E)=true) (hd:iP T E off n h=true) (hb: ∀ j o,h=some (j,o)->o<T.sz E):
 i.toNat*T.sz E+off+n<=(A2 T E nn l h).length /\toV ag (i.toNat*T.sz E+off) n (A2 T E nn l h)=(Cd (T:=T) ag off n (ZU E x)).toV :=by
 obtain⟨h1,h2⟩:=BZ ho;have hi:=N7 hx;have hxx:l[i.toNat]? =some x:=by have:=de hx;grind
 have hle:i.toNat*T.sz E+T.sz E<=l.length*T.sz E:=by have:(i.toNat+1)*T.sz E<=l.length*T.sz E:=Nat.mul_le_mul_right _ (by omega);grind
 simp only [iP,and_eq_true,all_eq_true]at hd;have key: ∀ p,off<=p->p<off+n->(A2 T E nn l h)[i.toNat*T.sz E+p]? =(T.enc E x)[p]? :=fun p p1 p2=>by
  refine qG hxx (by omega) (fun k hk=>?_) (fun j o e=>⟨fun eo=>?_,hb j o e⟩)
  ·refine hd.1 k ?_;refine mem_of_getElem? (i:=p - off) ?_;grind
  grind [dJ,Nat.ble_eq_true_of_le,Nat.blt]
 refine⟨by rw [DL];omega,?_⟩;rw [EX,Eo];unfold toV;have hlen:(A2 T E nn l h).length =l.length*T.sz E:=DL _ _ _ _;split
 ·congr 1;apply ext_getElem?;grind
 grind
theorem n7 {E:Nat} {nn:Int} {l:List (T.den E)} {i:Int} {x:T.den E} {off n:Nat} {ag:Bool} (hx:idx l i=some x) (hn:nn<=i) (ho:DZ ag off n (T.sz E)=true):
 i.toNat*T.sz E+off+n<=(A2 T E nn l none).length /\toV ag (i.toNat*T.sz E+off) n (A2 T E nn l none)=(Cd (T:=T) ag off n (ZU E x)).toV :=by
 obtain⟨h1,h2⟩:=BZ ho;have hi:=N7 hx;have hxx:l[i.toNat]? =some x:=by have:=de hx;grind
 have hle:i.toNat*T.sz E+T.sz E<=l.length*T.sz E:=by have:(i.toNat+1)*T.sz E<=l.length*T.sz E:=Nat.mul_le_mul_right _ (by omega);grind
 have key: ∀ p,off<=p->p<off+n->(A2 T E nn l none)[i.toNat*T.sz E+p]? =(T.enc E x)[p]? :=fun p p1 p2=>by show (Av T E nn 0 l)[_]? =_;rw [Hc hxx (by omega),if_neg (by omega)]
 refine⟨by rw [DL];omega,?_⟩;rw [EX,Eo];unfold toV;have hlen:(A2 T E nn l none).length =l.length*T.sz E:=DL _ _ _ _;split
 ·congr 1;apply ext_getElem?;grind
 grind
def qI (N:Nat):Option (Int×Nat)->Bool
 | none=>true
 | some (_,o)=>Nat.blt o N
def dK (P:Program) (t:TypeId) (key:List GL) (st:Ac T) (v:DV T):M (DV T):=
 match FW P t with
 | none=> .no
 | some (ag,n)=>match v with
   | .c (.c (.ptr id off))=>match G8 st id with
     | some cs=>match DZ ag off n cs.length with
       | true=> .ret (Cd ag off n cs)
       | false=> .no
     | none=> .no
   | .c (.ip E _ _ x off)=>match DZ ag off n (T.sz E)with
     | true=> .ret (Cd ag off n (ZU E x))
     | false=> .no
   | .c (.rp id N i off)=>match CI st id with
     | some ⟨E,l⟩=>match Nat.beq (T.sz E) N&&DZ ag off n N with
       | true=> .opt (gk key (idx l i)) fun x=> .ret (Cd ag off n (ZU E x))
       | false=> .no
     | none=>match G9 st id with
       | some ⟨E,(nn,l,h)⟩=>match Nat.beq (T.sz E) N&&(DZ ag off n N&&(iP T E off n h&&qI (T.sz E) h))with
         | true=> .opt (gk key (idx l i)) fun x=> .ret (Cd ag off n (ZU E x))
         | false=>match Nat.beq (T.sz E) N&&(DZ ag off n N&&h.isNone)with
           | true=> .opt (gk key (idx l i)) fun x=> .opt (gk key (DG (nn<=i))) fun _=> .ret (Cd ag off n (ZU E x))
           | false=> .no
       | none=> .no
   | .c (.ap id base m E i off)=>match G8 st id with
     | some cs=>match Il E m (cs.drop base),DZ ag off n (T.sz E)&&Nat.ble base cs.length with
       | some l,true=> .opt (gk key (idx l i)) fun x=> .ret (Cd ag off n (ZU E x))
       | _,_=> .no
     | none=> .no
   | _=> .no
def Rd (H:Aq T) (P:Program) (st:Ac T) (key:List GL) (op:Op) (v:DV T):Prop:=
 AO key=true->v.ok H st.nx/\(CT P st.toSt (AO key) op).1/\(CT P st.toSt (AO key) op).2=v.toV
theorem dM {E:Nat} {l:List (T.den E)} {i:Int} {x:T.den E} {off n:Nat} {ag:Bool} (hx:idx l i=some x) (ho:DZ ag off n (T.sz E)=true):
 i.toNat*T.sz E+off+n<=(l.flatMap (T.enc E)).length /\toV ag (i.toNat*T.sz E+off) n (l.flatMap (T.enc E))=(Cd (T:=T) ag off n (ZU E x)).toV :=by
 obtain⟨h1,h2⟩:=BZ ho;refine lG hx (fun y=>AG E y) rfl h1 h2 ?_;rw [EX,Eo]
theorem Uj {H:Aq T} {P:Program} {t:TypeId} {key:List GL} {st:Ac T} {v:DV T} (hw:Ay H st) (hv:AO key=true->v.ok H st.nx):
 Yl (dK P t key st v) (fun r=>AO key=true->r.ok H st.nx/\(CM P t st.toSt v.toV).1/\(CM P t st.toSt v.toV).2=r.toV):=by
 unfold dK;split
 ·exact Yl.no
 ·rename_i ag n ht;split
  ·rename_i id off;split
   ·rename_i cs hb;split
    ·rename_i ho;obtain⟨h1,h2⟩:=BZ ho;refine Yl.ret fun _=>⟨FB _ _ _ (Oc hw hb),?_⟩;simp only [DV.toV,DC.toC,CM,ht,(EY hb).2.1];rw [EX,AC];grind
    ·exact Yl.no
   ·exact Yl.no
  ·rename_i E l i x off;split
   ·rename_i ho;refine Yl.ret fun hc=>⟨FB _ _ _ (JA E x),?_⟩;have hx:=hv hc;simp only [DV.ok,DC.ok]at hx;obtain⟨a,b⟩:=dM (T:=T) hx ho;simp only [DV.toV,DC.toC,CM,ht];exact⟨⟨a,(BZ ho).2⟩,b⟩
   ·exact Yl.no
  ·rename_i id N i off;split
   ·rename_i E l hb;split
    ·rename_i ho;simp only [and_eq_true,beq_eq]at ho;obtain⟨e,ho⟩:=ho;subst e;refine Yl.opt fun x hx=>Yl.ret fun hc=>⟨FB _ _ _ (JA E x),?_⟩;obtain⟨a,b⟩:=dM (T:=T) (Ob hx hc) ho;simp only [DV.toV,DC.toC,CM,ht,(Bg hb).2.1];exact⟨⟨a,(BZ ho).2⟩,b⟩
    ·exact Yl.no
   ·split
    ·rename_i E nn l h hr;split
     ·rename_i ho;simp only [and_eq_true,beq_eq]at ho;obtain⟨e,ho,hd,hi⟩:=ho;subst e;refine Yl.opt fun x hx=>Yl.ret fun hc=>⟨FB _ _ _ (JA E x),?_⟩;obtain⟨a,b⟩:=qH (T:=T) (nn:=nn) (Ob hx hc) ho hd (fun j o e=>by simp_all [qI]);simp only [DV.toV,DC.toC,CM,ht,(Br hr).2.1];exact⟨⟨a,(BZ ho).2⟩,b⟩
     ·split
      ·rename_i ho;simp only [and_eq_true,beq_eq,Option.isNone_iff_eq_none]at ho;obtain⟨e,ho,hn⟩:=ho;subst e hn;refine Yl.opt fun x hx=>Yl.opt fun u hu=>Yl.ret fun hc=>⟨FB _ _ _ (JA E x),?_⟩;obtain⟨a,b⟩:=n7 (T:=T) (nn:=nn) (Ob hx hc) (BK (Ob hu hc)) ho;simp only [DV.toV,DC.toC,CM,ht,(Br hr).2.1];exact⟨⟨a,(BZ ho).2⟩,b⟩
      ·exact Yl.no
    ·exact Yl.no
  ·rename_i id base m E i off;split
   ·rename_i cs hb;split
    ·rename_i l hl ho;refine Yl.opt fun x hx=>Yl.ret fun hc=>⟨FB _ _ _ (JA E x),?_⟩;simp only [and_eq_true,ble_eq]at ho;obtain⟨ho,aiH⟩:=ho;obtain⟨h1,h2⟩:=BZ ho;obtain⟨hlen,r,hr⟩:=De hl;rw [Eb]at hr;have:=qz (cs:=Ap cs) (pre:=(Ap cs).take base) (post:=r) (base:=base) (e:=T.enc E) (N:=T.sz E) (o:=off) (n:=n) (ag:=ag) (v:=(Cd (T:=T) ag off n (ZU E x)).toV) (off:=base+i.toNat*T.sz E+off)
      (by grind [List.take_append_drop]) (by grind [AC]) (Ob hx hc) (fun y=>AG E y) (by omega) h1 h2 (by rw [EX,Eo])
     simp_all [DV.toV,DC.toC,CM,EY]
    ·exact Yl.no
   ·exact Yl.no
  ·exact Yl.no
end Go.PL
namespace Go.PL
open Go Go.RowKit
variable {T:AX}
def Uk (st:Ac T):Operand->Nat
 | .tmp t=>match Nat.blt t st.m with
   | true=>T7 st.tm t
   | false=>0
 | _=>0
def PX (key:List GL) (tc:Nat) (w p:Bool):List GL:=match tc with
 | 0=>key
 | t+1=>⟨t,w,p==w⟩::key
def PY:DV T->Option (List GL×Bool)
 | .c (.k .bool q)=>some ([],q)
 | .g k (.c (.k .bool q))=>some (k,q)
 | _=>none
def qJ (key:List GL) (tc:Nat) (p:Bool) (a b:DV T):M (DV T):=
 match PY a,PY b with
 | some (ka,q),some (kb,r)=>match Nh ka (PX key tc true p),Nh kb (PX key tc false p)with
   | true,true=> .ret (.c (.k .bool (if p then q else r)))
   | _,_=> .no
 | _,_=> .no
def Ul (op:BinOp) (k:IntKind) (a b:Int):DC T:=
 match op with
 | .add => .k (.int k) (k.wrap (a+b))
 | .sub => .k (.int k) (k.wrap (a - b))
 | .mul => .k (.int k) (k.wrap (a*b))
 | .quo => .k (.int k) (k.wrap (a.tdiv b))
 | .rem => .k (.int k) (a.tmod b)
 | .and => .k (.int k) (KG k a b)
 | .or => .k (.int k) (bOr k a b)
 | .xor => .k (.int k) (Zq k a b)
 | .andNot => .k (.int k) (Zr k a b)
 | .shl => .k (.int k) (k.wrap (a*2 ^ (min b.toNat k.bits)))
 | .shr => .k (.int k) (a.fdiv (2 ^ (min b.toNat k.bits)))
 | .eql => .k .bool (a==b)
 | .neq => .k .bool (a != b)
 | .lss => .k .bool (decide (a<b))
 | .leq => .k .bool (decide (a<=b))
 | .gtr => .k .bool (decide (b<a))
 | .geq => .k .bool (decide (b<=a))
theorem qK (op:BinOp) (k:IntKind) (a b:Int):(Ul (T:=T) op k a b).toC =(Fp op k a b).2/\(Ul (T:=T) op k a b).ok :=by cases op<;>exact⟨rfl,by simp only [Ul,DC.ok]⟩
def Acq (op:BinOp) (a b:List UInt8):Option (DC T):=
 match op with
 | .eql =>some (.k .bool (a==b))
 | .neq =>some (.k .bool (a != b))
 | .lss =>some (.k .bool (Op.bytesLess a b))
 | .leq =>some (.k .bool (Op.bytesLess a b||a==b))
 | .gtr =>some (.k .bool (!(Op.bytesLess a b||a==b)))
 | .geq =>some (.k .bool (!Op.bytesLess a b))
 | _=>none
def dN (op:BinOp) (b:Bool):Option (DC T):=
 match op with
 | .eql =>some (.k .bool b)
 | .neq =>some (.k .bool !b)
 | _=>none
def A_ {α:Type} (b:Bool) (m:M α):M α:=match b with
 | true=>m
 | false=> .no
theorem Yl.A_ {α:Type} {Φ:α->Prop} {b:Bool} {m:M α} (h:b=true->Yl m Φ):Yl (PL.A_ b m) Φ:=by
 cases b with
 | true=>exact h rfl
 | false=>exact Yl.no
def qL:Operand->Bool
 | .const (.int _ n)=> !(decide (n=0))
 | _=>false
def qM:Operand->Bool
 | .const (.int _ n)=>decide (0<=n)
 | _=>false
def nd (lit:Bool) (key:List GL) (p:Prop) [Decidable p] (v:DV T):M (DV T):=match lit with
 | true=> .ret v
 | false=> .opt (gk key (DG p)) fun _=> .ret v
def qO (op:BinOp) (key:List GL) (nz nn:Bool) (k:IntKind) (a b:Int):M (DV T):=
 match op with
 | .quo =>nd nz key (b ≠ 0) (.c (Ul .quo k a b))
 | .rem =>nd nz key (b ≠ 0) (.c (Ul .rem k a b))
 | .shl =>nd nn key (0<=b) (.c (Ul .shl k a b))
 | .shr =>nd nn key (0<=b) (.c (Ul .shr k a b))
 | op=> .ret (.c (Ul op k a b))
def ym (op:BinOp) (key:List GL) (a b:List UInt8):M (DV T):=
 match op with
 | .add => .opt (gk key (cat a b)) fun s=> .ret (.c (.k .str s))
 | op=>match Acq op a b with
   | some v=> .ret (.c v)
   | none=> .no
def yn (op:BinOp) (a b:Bool):M (DV T):=
 match op with
 | .eql => .ret (.c (.k .bool (a==b)))
 | .neq => .ret (.c (.k .bool (a != b)))
 | _=> .no
def zr (P:Program) (op:BinOp) (t:TypeId) (key:List GL) (kc nz nn:Bool) (x y:DV T):M (DV T):=
 match x,y with
 | .c (.k (.int k) a), .c (.k (.int k') b)=>A_ (kEq op k k') (qO op key nz nn k a b)
 | .c (.k .str a), .c (.k .str b)=>ym op key a b
 | .c (.k .bool a), .c (.k .bool b)=>A_ (Py P t) (yn op a b)
 | .c (.c .K_), .c (.c .K_)=>A_ (kc&&F3 P t)<|match dN op true with
   | some v=> .ret (.c v)
   | none=> .no
 | .c (.c .held), .c (.c .K_)=>A_ (F3 P t)<|match dN op false with
   | some v=> .ret (.c v)
   | none=> .no
 | .c (.c (.ptr _ _)), .c (.c .aaJ)=>A_ (GK P t)<|match dN op false with
   | some v=> .ret (.c v)
   | none=> .no
 | .c (.c .aaJ), .c (.c .aaJ)=>A_ (GK P t)<|match dN op true with
   | some v=> .ret (.c v)
   | none=> .no
 | .c (.rp _ _ _ _), .c (.c .aaJ)=>A_ (GK P t)<|match dN op false with
   | some v=> .ret (.c v)
   | none=> .no
 | .c (.ip _ _ _ _ _), .c (.c .aaJ)=>A_ (GK P t)<|match dN op false with
   | some v=> .ret (.c v)
   | none=> .no
 | .agg cs, .agg ds=>match pY false t cs,pY false t ds with
   | some x,some y=>A_ (cM P t (Ap cs) (Ap ds))<|match op with
     | .eql => .ret (.c (.k .bool (T.beq t x y)))
     | .neq => .ret (.c (.k .bool !(T.beq t x y)))
     | _=> .no
   | _,_=> .no
 | _,_=> .no
section
variable {H:Aq T} {P:Program} {st:Ac T} {key:List GL}
theorem X4 (hw:Ay H st) (hk:DJ H st.nx key) {c:Operand} {p:Bool} (hp:st.arg key c=some (.c (.k .bool p))) (w:Bool):DJ H st.nx (PX key (Uk st c) w p):=by
 unfold PX;split
 ·exact hk
 ·rename_i t ht;intro l hl;rcases mem_cons.1 hl with rfl | hl
  ·unfold Uk at ht;split at ht
   ·rename_i i;split at ht
    ·rename_i hb;obtain⟨h1,h2⟩:=T8 hw.tm ht;refine⟨h1,?_⟩;show (p==w)=(ZT (H.v t)==w);rw [h2];have e:st.ev (.tmp i)=lk st.tm i:=by show st.get i=_;unfold Ac.get;rw [hb]
     unfold Ac.arg at hp;rw [e]at hp;split at hp
     ·rename_i k v hv;split at hp
      ·injection hp with hp;subst hp;rw [hv];rfl
      ·cases hp
     ·injection hp with hp;rw [hp];rfl
    ·cases ht
   ·cases ht
  ·exact hk l hl
theorem Rl {tc:Nat} {w p:Bool} (hc:AO key=true) (hp:p=w):AO (PX key tc w p)=true:=by
 unfold PX;split
 ·exact hc
 ·refine G6.2 fun l hl=>?_;rcases mem_cons.1 hl with rfl | hl
  all_goals grind [G6]
theorem Rm {v:DV T} {k:List GL} {q:Bool} (h:PY v=some (k,q)):M2 v.toV=some (AO k,q):=by
 unfold PY at h;split at h
 ·injection h with h;injection h with h1 h2;subst h1 h2;rfl
 ·injection h with h;injection h with h1 h2;subst h1 h2;rfl
 ·cases h
theorem X5 {v:DV T} {k:List GL} {q:Bool} (h:PY v=some (k,q)) {nx:Nat} (hv:v.ok H nx):DJ H nx k:=by
 unfold PY at h;split at h
 ·injection h with h;injection h with h1 h2;subst h1 h2;intro l hl;cases hl
 ·injection h with h;injection h with h1 h2;subst h1 h2;simp only [DV.ok]at hv;exact hv.1
 ·cases h
theorem qP (hw:Ay H st) (hk:DJ H st.nx key) {c a b:Operand} {p:Bool} (hp:st.arg key c=some (.c (.k .bool p))):
 Yl (qJ key (Uk st c) p (st.ev a) (st.ev b)) (fun v=>AO key=true->v.ok H st.nx/\(S7 p (st.toSt.ev a) (st.toSt.ev b)).1/\(S7 p (st.toSt.ev a) (st.toSt.ev b)).2=v.toV):=by
 unfold qJ;split
 ·rename_i ka q kb r h1 h2;split
  ·rename_i s1 s2;refine Yl.ret fun hc=>⟨by simp only [DV.ok,DC.ok],?_⟩;unfold S7;rw [st.aat,st.aat,Rm h1,Rm h2];refine⟨⟨fun e=>K2 s1 (X5 h1 (Ac.afW hw a)) (X4 hw hk hp true) (Rl hc e),fun e=>K2 s2 (X5 h2 (Ac.afW hw b)) (X4 hw hk hp false) (Rl hc e)⟩,?_⟩;rfl
  ·exact Yl.no
 ·exact Yl.no
theorem Gy {op:BinOp} {b:Bool} {v:DC T} (h:dN op b=some v) {s:Prop} (hs:s):(IM op b s).1/\(IM op b s).2= .c v.toC/\v.ok:=by
 unfold dN at h;split at h
 ·injection h with h;subst h;exact⟨hs,rfl,by simp only [DC.ok]⟩
 ·injection h with h;subst h;exact⟨hs,rfl,by simp only [DC.ok]⟩
 ·cases h
theorem lP {lit:Bool} {p:Prop} [Decidable p] {v:DV T} (hl:lit=true->p):Yl (nd lit key p v) (fun r=>AO key=true->p/\r=v):=by
 unfold nd;split
 ·exact Yl.ret (by grind)
 ·exact Yl.opt fun u hu=>Yl.ret fun hc=>by have:=BK (Ob hu hc);grind
theorem qQ {op:BinOp} {nz nn:Bool} {k:IntKind} {a b:Int} (h1:nz=true->b ≠ 0) (h2:nn=true->0<=b):Yl (qO (T:=T) op key nz nn k a b) (fun v=>AO key=true->(Fp op k a b).1/\v= .c (Ul op k a b)):=by
 unfold qO;split
 ·exact lP h1
 ·exact lP h1
 ·exact lP h2
 ·exact lP h2
 ·refine Yl.ret fun hc=>⟨?_,rfl⟩;cases op<;>first | trivial | simp_all
def yo (nz nn:Bool) (y:DV T):Prop:= ∀ (k:IntKind) (b:Int),y= .c (.k (.int k) b)->(nz=true->b ≠ 0)/\(nn=true->0<=b)
theorem vD {op:BinOp} {t:TypeId} {kc nz nn:Bool} {x y:DV T} (aoy:yo nz nn y):
 Yl (zr P op t key kc nz nn x y) (fun v=>AO key=true->v.ok H st.nx/\(Ju P op t kc x.toV y.toV).1/\(Ju P op t kc x.toV y.toV).2=v.toV):=by
 unfold zr;split
 ·rename_i k a k' b;refine Yl.A_ fun hb=>?_;have hb':=TU hb;have ati:(Fp op k a b).1->(DV.c (Ul (T:=T) op k a b)).ok H st.nx/\(Ju P op t kc (DV.c (T:=T) (.k (.int k) a)).toV (DV.c (T:=T) (.k (.int k') b)).toV).1/\(Ju P op t kc (DV.c (T:=T) (.k (.int k) a)).toV (DV.c (T:=T) (.k (.int k') b)).toV).2=(DV.c (Ul (T:=T) op k a b)).toV :=by intro hi;obtain⟨q1,q2⟩:=qK (T:=T) op k a b;simp_all [DV.ok,DV.toV,DC.toC,AW,Ju,R6]
  obtain⟨l1,l2⟩:=aoy k' b rfl;exact(qQ l1 l2).mono (by grind)
 ·rename_i a b;unfold ym;split
  ·refine Yl.opt fun s hs=>Yl.ret fun hc=>?_;have:=Ob hs hc;simp only [DV.ok,DC.ok,DV.toV,DC.toC,AW,Ju,R6,FX,true_and];exact⟨yd this,by rw [ye this]⟩
  ·rename_i n_;split
   ·rename_i v hv;refine Yl.ret fun hc=>?_;unfold Acq at hv;split at hv<;>first
     | (injection hv with hv;subst hv;simp only [DV.ok,DC.ok,DV.toV,DC.toC,AW,Ju,R6,FX,and_self])
     | grind
   ·exact Yl.no
 ·rename_i a b;refine Yl.A_ fun hb=>?_;unfold yn;split
  ·exact Yl.ret fun _=>⟨by simp only [DV.ok,DC.ok],hb,rfl⟩
  ·exact Yl.ret fun _=>⟨by simp only [DV.ok,DC.ok],hb,rfl⟩
  ·exact Yl.no
 ·refine Yl.A_ fun hb=>?_;split
  ·rename_i v hv;refine Yl.ret fun _=>?_;simp only [and_eq_true]at hb;obtain⟨a,b,c⟩:=Gy (s:=kc=true/\F3 P t=true) hv hb;exact⟨by grind [DV.ok],a,by simp only [DV.toV];exact b⟩
  ·exact Yl.no
 ·refine Yl.A_ fun hb=>?_;split
  ·rename_i v hv;refine Yl.ret fun _=>?_;obtain⟨a,b,c⟩:=Gy (s:=F3 P t=true) hv hb;exact⟨by grind [DV.ok],a,by simp only [DV.toV];exact b⟩
  ·exact Yl.no
 ·refine Yl.A_ fun hb=>?_;split
  ·rename_i v hv;refine Yl.ret fun _=>?_;obtain⟨a,b,c⟩:=Gy (s:=GK P t=true) hv hb;exact⟨by grind [DV.ok],a,by simp only [DV.toV];exact b⟩
  ·exact Yl.no
 ·refine Yl.A_ fun hb=>?_;split
  ·rename_i v hv;refine Yl.ret fun _=>?_;obtain⟨a,b,c⟩:=Gy (s:=GK P t=true) hv hb;exact⟨by grind [DV.ok],a,by simp only [DV.toV];exact b⟩
  ·exact Yl.no
 ·refine Yl.A_ fun hb=>?_;split
  ·rename_i v hv;refine Yl.ret fun _=>?_;obtain⟨a,b,c⟩:=Gy (s:=GK P t=true) hv hb;exact⟨by grind [DV.ok],a,by simp only [DV.toV];exact b⟩
  ·exact Yl.no
 ·refine Yl.A_ fun hb=>?_;split
  ·rename_i v hv;refine Yl.ret fun _=>?_;obtain⟨a,b,c⟩:=Gy (s:=GK P t=true) hv hb;exact⟨by grind [DV.ok],a,by simp only [DV.toV];exact b⟩
  ·exact Yl.no
 ·rename_i cs ds;split
  ·rename_i x y h1 h2;refine Yl.A_ fun hb=>?_;have e:T.beq t x y=Bo (Ap cs) (Ap ds):=by rw [T.aeh,(FA h1).2 rfl,(FA h2).2 rfl]
   split
   ·refine Yl.ret fun _=>⟨by simp only [DV.ok,DC.ok],?_⟩;simp_all [DV.toV,DC.toC,AW,Ju,WQ]
   ·refine Yl.ret fun _=>⟨by simp only [DV.ok,DC.ok],?_⟩;simp_all [DV.toV,DC.toC,AW,Ju,WQ]
   ·exact Yl.no
  ·exact Yl.no
 ·exact Yl.no
end
end Go.PL
namespace Go.PL
open Go Go.RowKit
variable {T:AX}
def dun (op:UnOp):DV T->M (DV T)
 | .c (.k (.int k) n)=>match op with
   | .neg => .ret (.c (.k (.int k) (k.wrap (0 - (show Int from n)))))
   | .xor => .ret (.c (.k (.int k) (Zq k (if k.signed then -1 else k.max) n)))
   | _=> .no
 | .c (.k .bool b)=>match op with
   | .not => .ret (.c (.k .bool !(show Bool from b)))
   | _=> .no
 | _=> .no
def qR (P:Program) (src dst:TypeId):DV T->M (DV T)
 | .c (.k (.int _) n)=>match XB P dst with
   | some k=>A_ (nr P src) (.ret (.c (.k (.int k) (k.wrap n))))
   | none=> .no
 | .c (.k .str s)=>A_ (Cb P src&&Cb P dst) (.ret (.c (.k .str s)))
 | _=> .no
def vE (st:Ac T) (key:List GL):Option Operand->Option (Option Int)
 | none=>some none
 | some x=>match st.arg key x with
   | some (.c (.k (.int _) n))=>some (some n)
   | _=>none
def yp (key:List GL) (s:List UInt8) (lo hi:Option Int):M (DV T):=
 .opt (gk key (ZM s (lo.getD 0) (hi.getD s.length))) fun r=> .ret (.c (.k .str r))
def yq (key:List GL) (E:Nat) (l:List (T.den E)) (lo hi:Option Int):M (DV T):=
 .opt (gk key (iL l (lo.getD 0) (hi.getD l.length))) fun r=> .ret (.c (.k (.w_ E) r))
def zt (P:Program) (t:TypeId) (key:List GL) (x:DV T) (lo hi:Option Int):M (DV T):=
 match x with
 | .c (.k .str s)=>A_ (Cb P t) (yp key s lo hi)
 | .c (.k (.w_ E) l)=>match Ck P t with
   | some (_,n)=>A_ (Nat.beq n (T.sz E)) (yq key E l lo hi)
   | none=> .no
 | _=> .no
def qS (P:Program) (s:TypeId) (f:Nat) (x:DV T):M (DV T):=
 match nm P s f with
 | some (o,_,n)=>A_ (Nat.blt 0 n)<|match x with
   | .c (.c (.ptr id off))=> .ret (.c (.c (.ptr id (off+o))))
   | .c (.ip E l i x off)=> .ret (.c (.ip E l i x (off+o)))
   | .c (.rp id N i off)=> .ret (.c (.rp id N i (off+o)))
   | .c (.ap id base m E i off)=> .ret (.c (.ap id base m E i (off+o)))
   | _=> .no
 | none=> .no
def iR (P:Program) (t:TypeId) (f:Nat) (x:DV T):M (DV T):=
 match x with
 | .agg cs=>match nm P t f with
   | some (o,ag,n)=>A_ (DZ ag o n cs.length) (.ret (Cd ag o n cs))
   | none=> .no
 | _=> .no
def dO (key:List GL) (E:Nat) (l:List (T.den E)) (i:Int) (f:T.den E->DV T):M (DV T):= .opt (gk key (idx l i)) fun x=> .ret (f x)
def zu (P:Program) (t:TypeId) (key:List GL) (st:Ac T) (x y:DV T):M (DV T):=
 match y with
 | .c (.k (.int _) i)=>match x with
   | .c (.k (.w_ E) l)=>match Ck P t with
     | some (_,n)=>A_ (Nat.beq n (T.sz E)) (dO key E l i fun x=> .c (.ip E l i x 0))
     | none=> .no
   | .c (.c (.l_ id))=>match Ck P t,lO st id with
     | some (_,n),some ⟨E,l⟩=>dO key E l i fun _=> .c (.rp id n i 0)
     | _,_=> .no
   | .c (.c (.ptr id off))=>match C6 P t,G8 st id with
     | some (k,e,n),some cs=>match Il e k (cs.drop off)with
       | some l=>A_ (Nat.beq n (T.sz e)&&Nat.ble off cs.length) (dO key e l i fun _=> .c (.ap id off k e i 0))
       | none=> .no
     | _,_=> .no
   | _=> .no
 | _=> .no
def yr (key:List GL) (s:List UInt8) (i:Int):M (DV T):= .opt (gk key (aaZ s i)) fun r=> .ret (.c (.k (.int .u8) r))
def qT (P:Program) (t:TypeId) (key:List GL) (x y:DV T):M (DV T):=
 match y with
 | .c (.k (.int _) i)=>match x with
   | .c (.k .str s)=>A_ (Cb P t) (yr key s i)
   | .agg cs=>match C6 P t with
     | some (k,e,n)=>match FW P e,Il e k cs with
       | some (ag,_),some l=>A_ (Nat.beq n (T.sz e)&&(Nat.blt 0 n&&Nat.beq cs.length (k*n))) (dO key e l i fun x=>Cd ag 0 n (ZU e x))
       | _,_=> .no
     | none=> .no
   | _=> .no
 | _=> .no
def zw (i:Nat):DV T->M (DV T)
 | .tup vs=>A_ (Nat.blt i vs.length) (.ret (vs.getD i .u))
 | _=> .no
def qU:DV T->M (DV T)
 | .c (.c (.ptr id off))=> .ret (.c (.c (.ptr id off)))
 | .c (.c (.fn f))=> .ret (.c (.c (.fn f)))
 | .c (.ip E l i x off)=> .ret (.c (.ip E l i x off))
 | .c (.rp id N i off)=> .ret (.c (.rp id N i off))
 | .c (.ap id b m E i off)=> .ret (.c (.ap id b m E i off))
 | .c (.clo b f cs)=> .ret (.c (.clo b f cs))
 | _=> .no
def zx (P:Program) (t:TypeId) (st:Ac T) (x:DV T):M (DV T):=
 match x with
 | .c (.k .str s)=>A_ (Cb P t) (.ret (.c (.k (.int .i64) ((List.length (α:=UInt8) s:Nat):Int))))
 | .c (.k (.w_ E) l)=>A_ (Cl P t) (.ret (.c (.k (.int .i64) ((List.length (α:=T.den E) l:Nat):Int))))
 | .c (.c (.l_ id))=>match lO st id with
   | some ⟨_,l⟩=>A_ (Cl P t) (.ret (.c (.k (.int .i64) ((l.length:Nat):Int))))
   | none=> .no
 | .c (.bs _ _ _ n)=>A_ (Cl P t) (.ret (.c (.k (.int .i64) ((n.toNat:Nat):Int))))
 | .agg _=>match C6 P t with
   | some (k,_,_)=> .ret (.c (.k (.int .i64) ((k:Nat):Int)))
   | none=> .no
 | .c (.c (.ptr _ _))=>match C6 P t with
   | some (k,_,_)=> .ret (.c (.k (.int .i64) ((k:Nat):Int)))
   | none=> .no
 | _=> .no
def FY (st:Ac T) (key:List GL):List Operand->Option (List (DV T))
 | []=>some []
 | x::xs=>match st.arg key x,FY st key xs with
   | some v,some vs=>some (v::vs)
   | _,_=>none
abbrev AeD (x:Int) (ys:List Int):Int:=ys.foldl (fun a y=>if y<a then y else a) x
abbrev AeE (x:Int) (ys:List Int):Int:=ys.foldl (fun a y=>if a<y then y else a) x
def yt (k:IntKind) (x:Int) (ys:List Int):DV T:= .c (.k (.int k) (AeD x ys))
def yu (k:IntKind) (x:Int) (ys:List Int):DV T:= .c (.k (.int k) (AeE x ys))
def Um:List (DV T)->Option (IntKind×Int×List Int)
 | [.c (.k (.int k) x)]=>some (k,x,[])
 | .c (.k (.int k) x)::vs=>match Um vs with
   | some (_,y,ys)=>some (k,x,y::ys)
   | none=>none
 | _=>none
def iS:Value->Option (DC T)
 | .int k n=>some (.k (.int k) n)
 | .bool b=>some (.k .bool b)
 | .string s=>some (.k .str s.data.toList)
 | v=>match TF v with
   | some c=>some (.c c)
   | none=>none
def Od:List Value->Option (List (DC T))
 | []=>some []
 | v::vs=>match iS v,Od vs with
   | some c,some cs=>some (c::cs)
   | _,_=>none
def Un (P:Program) (t:TypeId):Option (List (DC T)):=
 match P.info? t with
 | some i=>match i.zero with
   | some z=>Od z.cells.toList
   | none=>none
 | none=>none
def DV.cells:DV T->Option (List (DC T))
 | .c x=>some [x]
 | .agg cs=>some cs
 | _=>none
def Rn (place:Nat->Option (Nat×Nat)) (cells:List (DC T)):List (Nat×DV T)->Option (List (DC T))
 | []=>some cells
 | (i,v)::rest=>match place i,v.cells with
   | some (off,size),some cs=>match Nat.beq cs.length size&&Nat.ble (off+size) cells.length with
     | true=>Rn place (cells.take off++(cs++cells.drop (off+size))) rest
     | false=>none
   | _,_=>none
def EZ (st:Ac T) (key:List GL):List (Nat×Operand)->Option (List (Nat×DV T))
 | []=>some []
 | (i,x)::r=>match st.arg key x,EZ st key r with
   | some v,some vs=>some ((i,v)::vs)
   | _,_=>none
def X6:List (DV T)->Option (List (DC T))
 | []=>some []
 | .c x::vs=>match X6 vs with
   | some cs=>some (x::cs)
   | none=>none
 | _=>none
def iT (P:Program) (t:TypeId) (key:List GL) (st:Ac T) (ps:List (Nat×Operand)):M (DV T):=
 match Un P t,EZ st key ps with
 | some z,some vs=>match Rn (p9 P t) z vs with
   | some cs=>A_ (cF P t) (.ret (.agg cs))
   | none=> .no
 | _,_=> .no
def IW (P:Program) (key:List GL) (st:Ac T):Op->M (DV T)
 | .move x=> .sm (st.arg key x)
 | .assign x=> .sm (st.arg key x)
 | .pick c a b=>match st.arg key c with
   | some (.c (.k .bool p))=>qJ key (Uk st c) p (st.ev a) (st.ev b)
   | _=> .no
 | .load t x=>match st.arg key x with
   | some v=>dK P t key st v
   | none=> .no
 | .binOp op t x y _=>match st.arg key x,st.arg key y with
   | some u,some v=>zr P op t key (AU x||AU y) (qL y) (qM y) u v
   | _,_=> .no
 | .unOp op _ x=>match st.arg key x with
   | some v=>dun op v
   | none=> .no
 | .convert src dst x=>match st.arg key x with
   | some v=>qR P src dst v
   | none=> .no
 | .slice t x lo hi none=>match st.arg key x,vE st key lo,vE st key hi with
   | some v,some l,some h=>zt P t key v l h
   | _,_,_=> .no
 | .fieldAddr s x f=>match st.arg key x with
   | some v=>qS P s f v
   | none=> .no
 | .field t x f=>match st.arg key x with
   | some v=>iR P t f v
   | none=> .no
 | .indexAddr t x i=>match st.arg key x,st.arg key i with
   | some u,some v=>zu P t key st u v
   | _,_=> .no
 | .index t x i=>match st.arg key x,st.arg key i with
   | some u,some v=>qT P t key u v
   | _,_=> .no
 | .extract x i=>match st.arg key x with
   | some v=>zw i v
   | none=> .no
 | .nilCheck x=>match st.arg key x with
   | some v=>qU v
   | none=> .no
 | .build t ps=>iT P t key st ps.toList
 | .makeFunc (.func f) ⟨[]⟩ ad0=>match FY st key ad0.toList with
   | some vs=>match X6 vs with
     | some cs=> .ret (.c (.clo false f cs))
     | none=> .no
   | none=> .no
 | .makeFunc (.func f) ⟨x::xs⟩ ⟨[]⟩=>match FY st key (x::xs)with
   | some vs=>match X6 vs with
     | some cs=> .ret (.c (.clo true f cs))
     | none=> .no
   | none=> .no
 | .call c=>match c.callee with
   | .builtin b=>match b,c.args.toList,c.argTypes.toList with
     | .len,[x],[t]=>match st.arg key x with
       | some v=>zx P t st v
       | none=> .no
     | .min,xs,_=>match FY st key xs with
       | some vs=>match Um vs with
         | some (k,x,ys)=> .ret (yt k x ys)
         | none=> .no
       | none=> .no
     | .max,xs,_=>match FY st key xs with
       | some vs=>match Um vs with
         | some (k,x,ys)=> .ret (yu k x ys)
         | none=> .no
       | none=> .no
     | _,_,_=> .no
   | _=> .no
 | _=> .no
end Go.PL
namespace Go.PL
open Go Go.RowKit
variable {T:AX}
section
variable {H:Aq T} {P:Program} {st:Ac T} {key:List GL}
theorem zy {op:UnOp} {x:DV T} {g:Prop} {nx:Nat}:Yl (dun op x) (fun v=>g->v.ok H nx/\(uQ op x.toV).1/\(uQ op x.toV).2=v.toV):=by
 unfold dun;split
 ·split
  ·exact Yl.ret fun _=>⟨by simp only [DV.ok,DC.ok],trivial,rfl⟩
  ·exact Yl.ret fun _=>⟨by simp only [DV.ok,DC.ok],trivial,rfl⟩
  ·exact Yl.no
 ·split
  ·exact Yl.ret fun _=>⟨by simp only [DV.ok,DC.ok],trivial,rfl⟩
  ·exact Yl.no
 ·exact Yl.no
theorem qV {s d:TypeId} {x:DV T} {g:Prop} {nx:Nat} {z:St}:Yl (qR P s d x) (fun v=>g->v.ok H nx/\(HO P s d z x.toV).1/\(HO P s d z x.toV).2=v.toV):=by
 unfold qR;split
 ·split
  ·rename_i k hk;refine Yl.A_ fun hb=>Yl.ret fun _=>⟨by simp only [DV.ok,DC.ok],?_⟩;simp_all [DV.toV,DC.toC,AW,HO]
  ·exact Yl.no
 ·refine Yl.A_ fun hb=>Yl.ret fun _=>⟨by simp only [DV.ok,DC.ok],?_⟩;simp only [and_eq_true]at hb;exact⟨hb,rfl⟩
 ·exact Yl.no
theorem PZ (hw:Ay H st) (hk:DJ H st.nx key) {x:Option Operand} {o:Option Int} (h:vE st key x=some o) (hc:AO key=true):
 (Cg st.toSt (AO key) x).1/\((o=none/\(Cg st.toSt (AO key) x).2=none)\/ ∃ k n,o=some n/\(Cg st.toSt (AO key) x).2=some (.c (.int k n))):=by
 unfold vE at h;split at h
 ·injection h with h;subst h;exact⟨trivial, .inl ⟨rfl,rfl⟩⟩
 ·split at h
  ·rename_i y k n hy;injection h with h;subst h;obtain⟨_,a,b⟩:=Ac.abW hw hk hy hc;exact⟨a, .inr ⟨k,n,rfl,by simp only [Cg,b];rfl⟩⟩
  ·cases h
theorem lQ {len:Nat} {lo hi:Option Int} {a b:Option V} (ha:(lo=none/\a=none)\/ ∃ k n,lo=some n/\a=some (.c (.int k n))) (hb:(hi=none/\b=none)\/ ∃ k n,hi=some n/\b=some (.c (.int k n))):
 WN len a b=some (lo.getD 0,hi.getD len):=by
 rcases ha with ⟨rfl,rfl⟩ | ⟨k,n,rfl,rfl⟩<;>rcases hb with ⟨rfl,rfl⟩ | ⟨k',n',rfl,rfl⟩<;>rfl
theorem qW {s:List UInt8} {lo hi:Option Int}:Yl (yp (T:=T) key s lo hi) (fun v=>AO key=true-> ∃ r,ZM s (lo.getD 0) (hi.getD s.length)=some r/\v= .c (.k .str r)):=
 Yl.opt fun r hr=>Yl.ret fun hc=>⟨r,Ob hr hc,rfl⟩
theorem qY {E:Nat} {l:List (T.den E)} {lo hi:Option Int}:Yl (yq key E l lo hi) (fun v=>AO key=true-> ∃ r,iL l (lo.getD 0) (hi.getD l.length)=some r/\v= .c (.k (.w_ E) r)):=
 Yl.opt fun r hr=>Yl.ret fun hc=>⟨r,Ob hr hc,rfl⟩
theorem vF {t:TypeId} {x:DV T} {lo hi:Option Int} {a b:Option V} (ha:AO key=true->(lo=none/\a=none)\/ ∃ k n,lo=some n/\a=some (.c (.int k n))) (hb:AO key=true->(hi=none/\b=none)\/ ∃ k n,hi=some n/\b=some (.c (.int k n))) {nx:Nat}:
 Yl (zt P t key x lo hi) (fun v=>AO key=true->v.ok H nx/\(EM P t x.toV a b).1/\(EM P t x.toV a b).2=v.toV):=by
 unfold zt;split
 ·rename_i s;refine Yl.A_ fun hs=>qW.mono fun v hv hc=>?_;obtain⟨r,h1,rfl⟩:=hv hc;have hB:=lQ (len:=List.length (α:=UInt8) s) (ha hc) (hb hc);refine⟨by simp only [DV.ok,DC.ok],?_⟩;simp only [DV.toV,DC.toC,AW,EM];grind [zj,zk]
 ·rename_i E l;split
  ·rename_i e n R_;refine Yl.A_ fun hs=>qY.mono fun v hv hc=>?_;obtain⟨r,h1,rfl⟩:=hv hc;have hn:n=T.sz E:=(by simp_all);subst hn;have hB:=lQ (len:=List.length (α:=T.den E) l) (ha hc) (hb hc);refine⟨by simp only [DV.ok,DC.ok],?_⟩;simp only [DV.toV,DC.toC,AW,EM,R_];grind [qC,agk,AG,AeA]
  ·exact Yl.no
 ·exact Yl.no
theorem qZ {s:TypeId} {f:Nat} {x:DV T} {g:Prop} {nx:Nat} (hx:g->x.ok H nx):Yl (qS P s f x) (fun v=>g->v.ok H nx/\(Bq P s f x.toV).1/\(Bq P s f x.toV).2=v.toV):=by
 unfold qS;split
 ·rename_i o ag n hf;refine Yl.A_ fun hb=>?_;have hb':0<n:=by simp_all
  split
  ·refine Yl.ret fun _=>⟨by simp only [DV.ok,DC.ok],?_⟩;simp_all [DV.toV,DC.toC,Bq]
  ·simp_all [Yl.ret,DV.ok,DC.ok,DV.toV,DC.toC,Bq,add_assoc]
  ·refine Yl.ret fun hg=>⟨by simp only [DV.ok,DC.ok],?_⟩;simp_all [DV.toV,DC.toC,Bq,add_assoc]
  ·refine Yl.ret fun hg=>⟨by simp only [DV.ok,DC.ok],?_⟩;simp_all [DV.toV,DC.toC,Bq,add_assoc]
  ·exact Yl.no
 ·exact Yl.no
theorem n8 {t:TypeId} {f:Nat} {x:DV T} {g:Prop} {nx:Nat} (hx:g->x.ok H nx):Yl (iR P t f x) (fun v=>g->v.ok H nx/\(GN P t f x.toV).1/\(GN P t f x.toV).2=v.toV):=by
 unfold iR;split
 ·split
  ·rename_i cs o ag n hf;refine Yl.A_ fun hb=>Yl.ret fun hg=>⟨(by grind [FB,DV.ok]),?_⟩;obtain⟨h1,h2⟩:=BZ hb;simp_all [DV.toV,GN,EX,AC]
  ·exact Yl.no
 ·exact Yl.no
theorem Oe {E:Nat} {l:List (T.den E)} {i:Int} {f:T.den E->DV T}:Yl (dO key E l i f) (fun v=>AO key=true-> ∃ x,idx l i=some x/\v=f x):=
 Yl.opt fun r hr=>Yl.ret fun hc=>⟨r,Ob hr hc,rfl⟩
theorem vG {t:TypeId} {x y:DV T} {nx:Nat}:Yl (zu P t key st x y) (fun v=>AO key=true->v.ok H nx/\(Bz P t st.toSt x.toV y.toV).1/\(Bz P t st.toSt x.toV y.toV).2=v.toV):=by
 unfold zu;split
 ·rename_i k i;split
  ·rename_i E l;split
   ·rename_i e n hs;refine Yl.A_ fun hn=>Oe.mono fun v hv hc=>?_;have hn:n=T.sz E:=(by simp_all);subst hn;obtain⟨x,h1,rfl⟩:=hv hc;refine⟨by grind [DV.ok,DC.ok],?_⟩;simp only [DV.toV,DC.toC,AW,Bz,hs,add_zero];exact⟨N7 h1,trivial⟩
   ·exact Yl.no
  ·rename_i id;split
   ·rename_i e n E l hs hb;refine Oe.mono fun v hv hc=>?_;obtain⟨x,h1,rfl⟩:=hv hc;refine⟨by simp only [DV.ok,DC.ok],?_⟩;obtain⟨ee,e1,e2⟩:=Uh hb;simp only [DV.toV,DC.toC,AW,Bz,hs,e1,e2,add_zero];exact⟨N7 h1,trivial⟩
   ·exact Yl.no
  ·rename_i id off;split
   ·rename_i m e n cs hs hb;split
    ·rename_i l hl;refine Yl.A_ fun hn=>Oe.mono fun v hv hc=>?_;simp only [and_eq_true,beq_eq,ble_eq]at hn;obtain⟨hn,_⟩:=hn;subst hn;obtain⟨x,h1,rfl⟩:=hv hc;refine⟨by simp only [DV.ok,DC.ok],?_⟩;simp only [DV.toV,DC.toC,AW,Bz,hs,add_zero];have:=N7 h1;rw [(De hl).1]at this;grind
    ·exact Yl.no
   ·exact Yl.no
  ·exact Yl.no
 ·exact Yl.no
theorem q8 {s:List UInt8} {i:Int}:Yl (yr (T:=T) key s i) (fun v=>AO key=true-> ∃ r,aaZ s i=some r/\v= .c (.k (.int .u8) r)):=
 Yl.opt fun r hr=>Yl.ret fun hc=>⟨r,Ob hr hc,rfl⟩
theorem q9 {t:TypeId} {x y:DV T} {nx:Nat}:Yl (qT P t key x y) (fun v=>AO key=true->v.ok H nx/\(FQ P t x.toV y.toV).1/\(FQ P t x.toV y.toV).2=v.toV):=by
 unfold qT;split
 ·rename_i k i;split
  ·rename_i s;refine Yl.A_ fun hs=>q8.mono fun v hv hc=>?_;obtain⟨r,h1,rfl⟩:=hv hc;grind [DV.ok,DC.ok,DV.toV,DC.toC,AW,FQ,zh,zi]
  ·rename_i cs;split
   ·rename_i m e n hs;split
    ·rename_i ag n' l ht hl;refine Yl.A_ fun hn=>Oe.mono fun v hv hc=>?_;simp only [and_eq_true,beq_eq,blt_eq]at hn;obtain⟨hn,h0,hlen⟩:=hn;subst hn;obtain⟨x,h1,rfl⟩:=hv hc;obtain⟨hl1,r,hl2⟩:=De hl;have:=qz (cs:=Ap cs) (pre:=[]) (post:=r) (base:=0) (e:=T.enc e) (N:=T.sz e) (o:=0) (n:=T.sz e) (ag:=ag) (v:=(Cd (T:=T) ag 0 (T.sz e) (ZU e x)).toV) (off:=i.toNat*T.sz e)
      (by grind) rfl h1 (fun y=>AG e y) (by omega) (by omega) (.inr h0) (by rw [EX,Eo])
     grind [FB,JA,N7,DV.toV,DC.toC,AW,FQ]
    ·exact Yl.no
   ·exact Yl.no
  ·exact Yl.no
 ·exact Yl.no
theorem X7: ∀ (vs:List (DV T)) (i:Nat),(AQ vs).getD i .undef =(vs.getD i .u).toV
 | [],_=>by simp [AQ,DV.toV]
 | v::vs,0=>by simp [AQ]
 | v::vs,i+1=>by simpa [AQ] using X7 vs i
theorem FC (vs:List (DV T)):(AQ vs).length =vs.length:=by simp [KZ]
theorem vH {i:Nat} {x:DV T} {g:Prop} {nx:Nat} (hx:g->x.ok H nx):Yl (zw i x) (fun v=>g->v.ok H nx/\(ii i x.toV).1/\(ii i x.toV).2=v.toV):=by
 unfold zw;split
 ·rename_i vs;refine Yl.A_ fun hb=>Yl.ret fun hg=>⟨?_,?_⟩
  ·grind [DV.ok,K0]
  ·simp only [DV.toV,ii,X7,FC];simp_all
 ·exact Yl.no
theorem rc {x:DV T} {g:Prop} {nx:Nat} (hx:g->x.ok H nx):Yl (qU x) (fun v=>g->v.ok H nx/\(WO x.toV).1/\(WO x.toV).2=v.toV):=by
 unfold qU;split
 ·exact Yl.ret fun hg=>⟨hx hg,trivial,rfl⟩
 ·exact Yl.ret fun hg=>⟨hx hg,trivial,rfl⟩
 ·grind [Yl.ret,DV.toV,DC.toC,WO]
 ·grind [Yl.ret,DV.toV,DC.toC,WO]
 ·grind [Yl.ret,DV.toV,DC.toC,WO]
 ·rename_i b f cs;refine Yl.ret fun hg=>⟨hx hg,?_⟩;cases b<;>simp only [DV.toV,DC.toC,WO]<;>exact(by grind)
 ·exact Yl.no
theorem vI {t:TypeId} {x:DV T} {nx:Nat} {g:Prop}:Yl (zx P t st x) (fun v=>g->v.ok H nx/\(M0 P t st.toSt x.toV).1/\(M0 P t st.toSt x.toV).2=v.toV):=by
 unfold zx;split
 ·exact Yl.A_ fun hb=>Yl.ret fun _=>⟨by simp only [DV.ok,DC.ok],hb,rfl⟩
 ·exact Yl.A_ fun hb=>Yl.ret fun _=>⟨by simp only [DV.ok,DC.ok],hb,rfl⟩
 ·split
  ·rename_i id E l hr;refine Yl.A_ fun hb=>Yl.ret fun _=>⟨by simp only [DV.ok,DC.ok],?_⟩;obtain⟨ee,e1,e2⟩:=Uh hr;simp_all [DV.toV,DC.toC,AW,M0]
  ·exact Yl.no
 ·exact Yl.A_ fun hb=>Yl.ret fun _=>⟨by simp only [DV.ok,DC.ok],hb,rfl⟩
 ·split
  ·rename_i k e n ha;refine Yl.ret fun _=>⟨by simp only [DV.ok,DC.ok],?_⟩;simp_all [DV.toV,DC.toC,AW,M0]
  ·exact Yl.no
 ·split
  ·rename_i k e n ha;refine Yl.ret fun _=>⟨by simp only [DV.ok,DC.ok],?_⟩;simp_all [DV.toV,DC.toC,AW,M0]
  ·exact Yl.no
 ·exact Yl.no
theorem Cy (hw:Ay H st) (hk:DJ H st.nx key) (hc:AO key=true): ∀ {xs:List Operand} {vs:List (DV T)},FY st key xs=some vs->
 B7 H st.nx vs/\(st.toSt.args (AO key) xs).1/\(st.toSt.args (AO key) xs).2=AQ vs
 | [],vs,h=>by grind [FY,B7,St.args,AQ]
 | x::xs,vs,h=>by
   unfold FY at h;split at h
   ·rename_i v vs' h1 h2;injection h with h;subst h;obtain⟨a,b,c⟩:=Ac.abW hw hk h1 hc;obtain⟨a',b',c'⟩:=Cy hw hk hc h2;simp_all [B7,St.args,AQ]
   ·cases h
theorem Ni: ∀ {vs:List (DV T)} {r:IntKind×Int×List Int},Um vs=some r->GP (AQ vs)=some r
 | [],_,h=>by simp [Um]at h
 | [v],r,h=>by
   unfold Um at h;split at h
   ·rename_i k x he;injection he with he;subst he;injection h with h;subst h;rfl
   all_goals grind
 | v::v'::vs,r,h=>by
   unfold Um at h;split at h
   ·grind
   ·rename_i k x vs' _ he;injection he with h1 h2;subst h1 h2;split at h
    ·rename_i k' y ys h3;injection h with h;subst h;have:=Ni h3;simp_all [AQ,DV.toV,DC.toC,AW,GP]
    ·cases h
   ·cases h
theorem dP {v:Value} {c:DC T} (h:iS v=some c):TF v=some c.toC/\c.ok:=by
 unfold iS at h;split at h
 ·injection h with h;subst h;exact⟨rfl,by simp only [DC.ok]⟩
 ·injection h with h;subst h;exact⟨rfl,by simp only [DC.ok]⟩
 ·injection h with h;subst h;exact⟨rfl,by simp only [DC.ok]⟩
 grind [DC.toC,DC.ok]
theorem Of: ∀ {vs:List Value} {cs:List (DC T)},Od vs=some cs->F4 vs=some (Ap cs)/\Bx cs
 | [],cs,h=>by grind [Od,F4,Ap,Bx]
 | v::vs,cs,h=>by
   unfold Od at h;split at h
   ·rename_i c Tk h1 h2;injection h with h;subst h;obtain⟨a,b⟩:=dP h1;obtain⟨a',b'⟩:=Of h2;simp [F4,a,a',Ap,Bx,b,b']
   ·cases h
theorem K3 {t:TypeId} {cs:List (DC T)} (h:Un P t=some cs):TG P t=some (Ap cs)/\Bx cs:=by grind [Un,TG,Of]
theorem DV.aa7 {v:DV T} {cs:List (DC T)} (h:v.cells=some cs):v.toV.cells=some (Ap cs)/\(∀ {H:Aq T} {nx:Nat},v.ok H nx->Bx cs):=by unfold DV.cells at h;grind [DV.toV,V.cells,Ap,Bx,DV.ok]
def dQ (l:List (Nat×DV T)):List (Nat×V):=l.map fun x=>(x.1,x.2.toV)
theorem Ec (hw:Ay H st) (hk:DJ H st.nx key) (hc:AO key=true): ∀ {ps:List (Nat×Operand)} {vs:List (Nat×DV T)},EZ st key ps=some vs->
 (∀ x∈vs,x.2.ok H st.nx)/\(st.toSt.parts (AO key) ps).1/\(st.toSt.parts (AO key) ps).2=dQ vs
 | [],vs,h=>by grind [EZ,St.parts,dQ]
 | (i,x)::r,vs,h=>by
   unfold EZ at h;split at h
   ·rename_i v vs' h1 h2;injection h with h;subst h;obtain⟨a,b,c⟩:=Ac.abW hw hk h1 hc;obtain⟨a',b',c'⟩:=Ec hw hk hc h2;simp only [St.parts,dQ,c,c',map_cons];grind
   ·cases h
theorem Hd {place:Nat->Option (Nat×Nat)}: ∀ {vs:List (Nat×DV T)} {cells cs:List (DC T)},Rn place cells vs=some cs->
 GR place (Ap cells) (dQ vs)=some (Ap cs)/\ ∀ {H:Aq T} {nx:Nat},Bx cells->(∀ x∈vs,x.2.ok H nx)->Bx cs
 | [],cells,cs,h=>by simp [Rn]at h;subst h;exact⟨rfl,fun hc _=>hc⟩
 | (i,v)::rest,cells,cs,h=>by
   unfold Rn at h;split at h
   ·rename_i off size ds h1 h2;split at h
    ·rename_i hb;simp only [and_eq_true,beq_eq,ble_eq]at hb;obtain⟨a,b⟩:=DV.aa7 h2;obtain⟨a',b'⟩:=Hd h;refine⟨?_,fun hc hv=>b' (Cq (PV hc _) (Cq (b (hv (i,v) (by simp))) (PW hc _))) (fun x hx=>hv x (by simp [hx]))⟩;simp only [dQ,map_cons,GR,h1,a];rw [if_pos (by rw [AC,AC];exact hb)];rw [<-a',BY,BY,Gx,Eb,List.append_assoc];rfl
    ·cases h
   ·cases h
theorem Nj: ∀ {vs:List (DV T)} {cs:List (DC T)},X6 vs=some cs->ZB (AQ vs)=some (Ap cs)/\ ∀ {H:Aq T} {nx:Nat},B7 H nx vs->Bx cs
 | [],cs,h=>by grind [X6,AQ,ZB,Ap,Bx]
 | v::vs,cs,h=>by
   unfold X6 at h;split at h
   ·cases ‹_=([]:List (DV T))›
   ·rename_i x vs' he;injection he with h1 h2;subst h1 h2;split at h
    ·rename_i Tk hcs;injection h with h;subst h;obtain⟨a,b⟩:=Nj hcs;refine⟨by simp [AQ,DV.toV,ZB,a,Ap],fun hv=>?_⟩;simp only [B7,DV.ok]at hv;simp only [Bx];exact⟨hv.1,b hv.2⟩
    ·cases h
   ·cases h
theorem n9 (hw:Ay H st) (hk:DJ H st.nx key) {t:TypeId} {ps:List (Nat×Operand)}:
 Yl (iT P t key st ps) (fun v=>AO key=true->v.ok H st.nx/\(KM P st.toSt (AO key) t ps).1/\(KM P st.toSt (AO key) t ps).2=v.toV):=by
 unfold iT;split
 ·rename_i z vs hz hp;split
  ·rename_i cs hf;refine Yl.A_ fun ho=>Yl.ret fun hc=>?_;obtain⟨a,b⟩:=K3 hz;obtain⟨p1,p2,p3⟩:=Ec hw hk hc hp;obtain⟨q1,q2⟩:=Hd hf;refine⟨by simp only [DV.ok];exact q2 b p1,?_⟩;simp_all [KM,DV.toV]
  ·exact Yl.no
 ·exact Yl.no
theorem rf {y:Operand} {v:DV T} (h:st.arg key y=some v):yo (qL y) (qM y) v:=by
 intro k b hv;subst hv;have hc: ∀ (k':IntKind) (n:Int),y= .const (.int k' n)->b=n:=by grind [Ac.arg,Ac.ev,PU,Rh]
 constructor
 ·intro h1;unfold qL at h1;grind
 ·intro h1;unfold qM at h1;grind
theorem IX (hw:Ay H st) (hk:DJ H st.nx key) (op:Op):Yl (IW P key st op) (Rd H P st key op):=by
 have A: ∀ {x:Operand} {v:DV T},st.arg key x=some v->AO key=true->v.ok H st.nx/\(st.toSt.arg (AO key) x).1/\(st.toSt.arg (AO key) x).2=v.toV:=(by grind [Ac.abW]);unfold IW;split
 ·exact Yl.sm fun v hv hc=>A hv hc
 ·exact Yl.sm fun v hv hc=>A hv hc
 ·rename_i c a b;split
  ·rename_i p hp;refine(qP hw hk hp).mono fun v hv hc=>?_;grind [DV.toV,DC.toC,AW,CT,rd,y_]
  ·exact Yl.no
 ·rename_i t x;split
  ·rename_i v hx;refine(Uj hw (by grind)).mono fun r hr hc=>?_;grind [CT,rd,y_]
  ·exact Yl.no
 ·rename_i op t x y ty;split
  ·rename_i u v hx hy;refine(vD (H:=H) (st:=st) (rf hy)).mono fun r hr hc=>?_;obtain⟨q0,q1,q2⟩:=hr hc;obtain⟨_,k1,k2⟩:=A hx hc;obtain⟨_,k3,k4⟩:=A hy hc;refine⟨q0,?_⟩;have e:CT P st.toSt (AO key) (.binOp op t x y ty)=((st.toSt.arg (AO key) x).1/\(st.toSt.arg (AO key) y).1/\(Ju P op t (AU x||AU y) (st.toSt.arg (AO key) x).2 (st.toSt.arg (AO key) y).2).1,(Ju P op t (AU x||AU y) (st.toSt.arg (AO key) x).2 (st.toSt.arg (AO key) y).2).2):=by
    simp only [CT];unfold Ju;split
    ·grind
    ·rename_i n_;split
     ·grind
     ·rfl
   grind
  ·exact Yl.no
 ·rename_i op t x;split
  ·rename_i v hx;refine(zy (H:=H) (g:=AO key=true) (nx:=st.nx)).mono fun r hr hc=>?_;grind [CT,rd,y_]
  ·exact Yl.no
 ·rename_i s d x;split
  ·rename_i v hx;refine(qV (H:=H) (g:=AO key=true) (nx:=st.nx) (z:=st.toSt)).mono fun r hr hc=>?_;grind [CT,rd,y_]
  ·exact Yl.no
 ·rename_i t x lo hi;split
  ·rename_i v l h hx hl hh;refine(vF (H:=H) (nx:=st.nx) (a:=(Cg st.toSt (AO key) lo).2) (b:=(Cg st.toSt (AO key) hi).2) (fun hc=>(PZ hw hk hl hc).2) (fun hc=>(PZ hw hk hh hc).2)).mono fun r hr hc=>?_;grind [CT,rd,y_,PZ]
  ·exact Yl.no
 ·rename_i s x f;split
  ·rename_i v hx;refine(qZ (H:=H) (g:=AO key=true) (nx:=st.nx) (by grind)).mono fun r hr hc=>?_;grind [CT,rd,y_]
  ·exact Yl.no
 ·rename_i t x f;split
  ·rename_i v hx;refine(n8 (H:=H) (g:=AO key=true) (nx:=st.nx) (by grind)).mono fun r hr hc=>?_;grind [CT,rd,y_]
  ·exact Yl.no
 ·rename_i t x y;split
  ·rename_i u v hx hy;refine(vG (H:=H) (nx:=st.nx)).mono fun r hr hc=>?_;grind [CT,rd,y_]
  ·exact Yl.no
 ·rename_i t x y;split
  ·rename_i u v hx hy;refine(q9 (H:=H) (nx:=st.nx)).mono fun r hr hc=>?_;grind [CT,rd,y_]
  ·exact Yl.no
 ·rename_i x i;split
  ·rename_i v hx;refine(vH (H:=H) (g:=AO key=true) (nx:=st.nx) (by grind)).mono fun r hr hc=>?_;grind [CT,rd,y_]
  ·exact Yl.no
 ·rename_i x;split
  ·rename_i v hx;refine(rc (H:=H) (g:=AO key=true) (nx:=st.nx) (by grind)).mono fun r hr hc=>?_;grind [CT,rd,y_]
  ·exact Yl.no
 ·exact n9 hw hk
 ·rename_i f ad0;split
  ·rename_i vs hvs;split
   ·rename_i cs hcs;refine Yl.ret fun hc=>?_;obtain⟨a,b,c⟩:=Cy hw hk hc hvs;obtain⟨d,e⟩:=Nj hcs;refine⟨by grind [DV.ok,DC.ok],?_⟩;simp_all [CT,DV.toV,DC.toC]
   ·exact Yl.no
  ·exact Yl.no
 ·rename_i f x xs;split
  ·rename_i vs hvs;split
   ·rename_i cs hcs;refine Yl.ret fun hc=>?_;obtain⟨a,b,c⟩:=Cy hw hk hc hvs;obtain⟨d,e⟩:=Nj hcs;refine⟨by grind [DV.ok,DC.ok],?_⟩;simp_all [CT,DV.toV,DC.toC]
   ·exact Yl.no
  ·exact Yl.no
 ·rename_i c;split
  ·rename_i b hb;split
   ·rename_i x t h1 h2;split
    ·rename_i v hx;refine(vI (H:=H) (g:=AO key=true) (nx:=st.nx)).mono fun r hr hc=>?_;grind [CT,rd,M3,y_]
    ·exact Yl.no
   ·split
    ·rename_i vs hvs;split
     ·rename_i k x ys hi;refine Yl.ret fun hc=>?_;obtain⟨a,b',c'⟩:=Cy hw hk hc hvs;refine⟨by simp only [yt,DV.ok,DC.ok],?_⟩;simp only [CT,rd,hb,M3,c',Zv,Ni hi];exact⟨⟨b',trivial⟩,rfl⟩
     ·exact Yl.no
    ·exact Yl.no
   ·split
    ·rename_i vs hvs;split
     ·rename_i k x ys hi;refine Yl.ret fun hc=>?_;obtain⟨a,b',c'⟩:=Cy hw hk hc hvs;refine⟨by simp only [yu,DV.ok,DC.ok],?_⟩;simp only [CT,rd,hb,M3,c',Zw,Ni hi];exact⟨⟨b',trivial⟩,rfl⟩
     ·exact Yl.no
    ·exact Yl.no
   ·exact Yl.no
  ·exact Yl.no
 ·exact Yl.no
end
end Go.PL
namespace Go.PL
open Go Go.RowKit
variable {T:AX}
def Ac.put (st:Ac T) (d:Option Nat) (v:DV T):Ac T:=match d with
 | some d=>{st with tm:=(d,st.nx,v)::st.tm,nx:=st.nx+1}
 | none=>st
theorem dR (m d t:Nat) (v:DV T) (tm:Tm T):Aw m ((d,t,v)::tm)=(Aw m tm).set d v.toV:=by
 apply ext_getElem?;intro i;unfold Aw;rw [List.getElem?_set];simp only [getElem?_map,List.length_map,List.length_range];by_cases hi:i<m
 ·rw [List.getElem?_range hi];simp only [Option.map_some,lk];by_cases hd:d=i
  ·simp_all
  grind [Nat.eq_of_beq_eq_true]
 grind
theorem Ac.d_ (st:Ac T) (d:Option Nat) (v:DV T):(st.put d v).toSt =st.toSt.put d v.toV:=by cases d<;>grind [Ac.put,Ac.toSt,St.put,dR]
def Aq.acx (H:Aq T) (t:Nat) (v:DV T):Aq T:=⟨fun i=>if i=t then v else H.v i,H.e⟩
def Aq.C_ (H:Aq T) (t:Nat) (e:DE T):Aq T:=⟨H.v,fun i=>if i=t then e else H.e i⟩
theorem Ch.acx (H:Aq T) (t:Nat) (v:DV T):Ch t H (H.acx t v):=fun i hi=>⟨by simp only [Aq.acx];grind,rfl⟩
theorem Ch.C_ (H:Aq T) (t:Nat) (e:DE T):Ch t H (H.C_ t e):=fun i hi=>⟨rfl,by simp only [Aq.C_];grind⟩
structure Nx (H:Aq T) (st:Ac T) (H':Aq T) (an:Ac T):Prop where
 ext:Ch st.nx H H'
 le:st.nx<=an.nx
 ok:Ay H' an
theorem Nx.refl {H:Aq T} {st:Ac T} (h:Ay H st):Nx H st H st:=⟨Ch.refl _ _,le_refl _,h⟩
theorem Nx.trans {H H' H'':Aq T} {a b c:Ac T} (h:Nx H a H' b) (k:Nx H' b H'' c):Nx H a H'' c:=⟨h.ext.trans k.ext h.le,Nat.le_trans h.le k.le,k.ok⟩
theorem DM {H H':Aq T} {n m:Nat} (he:Ch n H H') (hnm:n<=m) {l:List (DE T)} (h: ∀ e∈l,e.tag<n/\H.e e.tag=e/\e.x.ok): ∀ e∈l,e.tag<m/\H'.e e.tag=e/\e.x.ok:=fun e hm=>by obtain⟨a,b,c⟩:=h e hm;exact⟨(by grind),by rw [(he e.tag a).2];exact b,c⟩
theorem Ac.O_ {H:Aq T} {st:Ac T} (h:Ay H st) (d:Option Nat) {v:DV T} (hv:v.ok H st.nx): ∃ H',Nx H st H' (st.put d v):=by
 cases d with
 | none=>exact⟨H,Nx.refl h⟩
 | some d=>
   have he:=Ch.acx H st.nx v;refine⟨H.acx st.nx v,he,by simp [Ac.put],?_,?_,?_,h.nd⟩
   ·intro s t w hm;simp only [Ac.put]at hm ⊢;rcases mem_cons.1 hm with hm | hm
    ·injection hm with h1 hm;injection hm with h2 h3;subst h1 h2 h3;exact⟨Nat.lt_succ_self _,by simp [Aq.acx],DV.aa1 he (le_succ _) hv⟩
    ·exact Bn he (le_succ _) h.tm s t w hm
   ·intro f hf;exact Bn he (le_succ _) (h.gh f hf)
   ·exact DM he (le_succ _) h.so
def MA (p:DV T->Bool) (f:DV T->DV T):Nat->Tm T->Tm T
 | _,[]=>[]
 | n,(s,t,v)::r=>match p v with
   | true=>(s,n,f v)::MA p f (n+1) r
   | false=>(s,t,v)::MA p f (n+1) r
def Nk (p:DV T->Bool) (f:DV T->DV T):Nat->List (Nat×Tm T)->List (Nat×Tm T)
 | _,[]=>[]
 | n,(m,tm)::r=>(m,MA p f n tm)::Nk p f (n+tm.length) r
def J8:List (Nat×Tm T)->Nat
 | []=>0
 | (_,tm)::r=>tm.length+J8 r
def Nl (q:DX T->Bool) (g:DX T->DX T):Nat->List (DE T)->List (DE T)
 | _,[]=>[]
 | n,e::r=>match q e.x with
   | true=>⟨e.id,n,g e.x⟩::Nl q g (n+1) r
   | false=>e::Nl q g (n+1) r
def Ac.abz (p:DV T->Bool) (f:DV T->DV T) (q:DX T->Bool) (g:DX T->DX T) (st:Ac T):Ac T:=
 {st with tm:=MA p f st.nx st.tm,gh:=Nk p f (st.nx+st.tm.length) st.gh,so:=Nl q g (st.nx+st.tm.length+J8 st.gh) st.so,nx:=st.nx+st.tm.length+J8 st.gh+st.so.length}
section
variable {p:DV T->Bool} {f:DV T->DV T} {q:DX T->Bool} {g:DX T->DX T}
theorem SF (hf: ∀ {H:Aq T} {n:Nat} {v:DV T},v.ok H n->(f v).ok H n): ∀ (tm:Tm T) (n:Nat) (H:Aq T),Ng H n tm-> ∃ H',Ch n H H'/\Ng H' (n+tm.length) (MA p f n tm)
 | [],n,H,_=>⟨H,Ch.refl _ _,fun _ _ _ h=>by cases h⟩
 | (s,t,v)::r,n,H,h=>by
   obtain⟨a,b,c⟩:=h s t v (by simp);have hr:Ng H n r:=fun s' t' v' hm=>h s' t' v' (by simp [hm]);unfold MA;split
   ·have he:=Ch.acx H n (f v);obtain⟨H',h1,h2⟩:=SF hf r (n+1) (H.acx n (f v)) (Bn he (le_succ _) hr);refine⟨H',he.trans h1 (le_succ _),fun s' t' v' hm=>?_⟩;rw [show n+((s,t,v)::r).length =n+1+r.length by simp;omega];rcases mem_cons.1 hm with hm | hm
    ·injection hm with e1 hm;injection hm with e2 e3;subst e1 e2 e3;refine⟨by omega,?_,DV.aa1 (he.trans h1 (le_succ _)) (by omega) (hf c)⟩;rw [(h1 t' (by omega)).1];simp [Aq.acx]
    ·exact h2 s' t' v' hm
   ·obtain⟨H',h1,h2⟩:=SF hf r (n+1) H (Bn (Ch.refl _ _) (le_succ _) hr);have h1':Ch n H H':=fun i hi=>h1 i (by omega);refine⟨H',h1',fun s' t' v' hm=>?_⟩;rw [show n+((s,t,v)::r).length =n+1+r.length by simp;omega];rcases mem_cons.1 hm with hm | hm
    ·injection hm with e1 hm;injection hm with e2 e3;subst e1 e2 e3;refine⟨by omega,?_,DV.aa1 h1' (by omega) c⟩;rw [(h1' t' a).1];exact b
    ·exact h2 s' t' v' hm
theorem lR (hf: ∀ {H:Aq T} {n:Nat} {v:DV T},v.ok H n->(f v).ok H n): ∀ (l:List (Nat×Tm T)) (n:Nat) (H:Aq T),(∀ x∈l,Ng H n x.2)-> ∃ H',Ch n H H'/\ ∀ x∈Nk p f n l,Ng H' (n+J8 l) x.2
 | [],n,H,_=>⟨H,Ch.refl _ _,fun _ h=>by cases h⟩
 | (m,tm)::r,n,H,h=>by
   obtain⟨H1,a,b⟩:=SF (p:=p) hf tm n H (h (m,tm) (by simp));obtain⟨H2,c,d⟩:=lR hf r (n+tm.length) H1 (by grind [Bn]);refine⟨H2,a.trans c (by omega),fun x hx=>?_⟩;have e:n+J8 ((m,tm)::r)=n+tm.length+J8 r:=by simp [J8];omega
   rw [e];rcases mem_cons.1 hx with rfl | hx
   all_goals grind [Bn]
theorem ZV (hg: ∀ {x:DX T},x.ok->(g x).ok): ∀ (l:List (DE T)) (n:Nat) (H:Aq T),(∀ e∈l,e.tag<n/\H.e e.tag=e/\e.x.ok)-> ∃ H',Ch n H H'/\ ∀ e∈Nl q g n l,e.tag<n+l.length/\H'.e e.tag=e/\e.x.ok
 | [],n,H,_=>⟨H,Ch.refl _ _,fun _ h=>by cases h⟩
 | e::r,n,H,h=>by
   obtain⟨a,b,c⟩:=h e (by simp);have hr: ∀ e∈r,e.tag<n/\H.e e.tag=e/\e.x.ok:=(by grind);unfold Nl;split
   ·have he:=Ch.C_ H n ⟨e.id,n,g e.x⟩;obtain⟨H',h1,h2⟩:=ZV hg r (n+1) (H.C_ n ⟨e.id,n,g e.x⟩) (DM he (le_succ _) hr);refine⟨H',he.trans h1 (le_succ _),fun x hm=>?_⟩;rw [show n+(e::r).length =n+1+r.length by simp;omega];rcases mem_cons.1 hm with rfl | hm
    ·refine⟨by grind,?_,hg c⟩;simp only;rw [(h1 n (by omega)).2];simp [Aq.C_]
    grind
   ·obtain⟨H',h1,h2⟩:=ZV hg r (n+1) H (by grind);have h1':Ch n H H':=fun i hi=>h1 i (by omega);refine⟨H',h1',fun x hm=>?_⟩;rw [show n+(e::r).length =n+1+r.length by simp;omega];rcases mem_cons.1 hm with rfl | hm
    ·exact⟨by omega,by rw [(h1' x.tag a).2];exact b,c⟩
    grind
theorem dU: ∀ (l:List (DE T)) (n:Nat),(Nl q g n l).map DE.id=l.map DE.id
 | [],_=>rfl
 | e::r,n=>by unfold Nl;split<;>simp [dU r]
theorem Ac.abI {H:Aq T} {st:Ac T} (h:Ay H st) (hf: ∀ {H:Aq T} {n:Nat} {v:DV T},v.ok H n->(f v).ok H n) (hg: ∀ {x:DX T},x.ok->(g x).ok): ∃ H',Nx H st H' (st.abz p f q g):=by
 obtain⟨H1,a1,b1⟩:=SF (p:=p) hf st.tm st.nx H h.tm;obtain⟨H2,a2,b2⟩:=lR (p:=p) hf st.gh (st.nx+st.tm.length) H1 (fun x hx=>Bn a1 (by omega) (h.gh x hx));obtain⟨H3,a3,b3⟩:=ZV (q:=q) hg st.so (st.nx+st.tm.length+J8 st.gh) H2 (DM (a1.trans a2 (by omega)) (by omega) h.so);have a23:Ch (st.nx+st.tm.length) H1 H3:=a2.trans a3 (by omega);refine⟨H3,a1.trans a23 (by omega),by grind [Ac.abz],?_,?_,b3,by simp only [Ac.abz,dU];exact h.nd⟩
 all_goals grind [Bn,Ac.abz]
theorem JB (hu:p .u =false) (i:Nat): ∀ (tm:Tm T) (n:Nat),lk (MA p f n tm) i=(match p (lk tm i)with | true=>f (lk tm i) | false=>lk tm i)
 | [],n=>by simp [MA,lk,hu]
 | (s,t,v)::r,n=>by
   unfold MA;split
   ·rename_i hp;simp only [lk];cases Nat.beq s i with
    | true=>simp only [hp]
    | false=>exact JB hu i r (n+1)
   ·rename_i hp;simp only [lk];cases Nat.beq s i with
    | true=>simp only [hp]
    | false=>exact JB hu i r (n+1)
theorem dV {F:V->V} (hu:p .u =false) {tm:Tm T} (h1: ∀ i,p (lk tm i)=true->(f (lk tm i)).toV =F (lk tm i).toV) (h2: ∀ i,p (lk tm i)=false->F (lk tm i).toV =(lk tm i).toV) (m n:Nat):Aw m (MA p f n tm)=(Aw m tm).map F:=by unfold Aw;rw [map_map];apply List.map_congr_left;intro i _;simp only [Function.comp,JB hu];grind
theorem dW {F:V->V} (hu:p .u =false): ∀ {l:List (Nat×Tm T)} (n:Nat),(∀ x∈l, ∀ i,(p (lk x.2 i)=true->(f (lk x.2 i)).toV =F (lk x.2 i).toV)/\(p (lk x.2 i)=false->F (lk x.2 i).toV =(lk x.2 i).toV))->
 (Nk p f n l).flatMap (fun f=>Aw f.1 f.2)=(l.flatMap fun f=>Aw f.1 f.2).map F
 | [],_,_=>rfl
 | (m,tm)::r,n,h=>by simp only [Nk,flatMap_cons,map_append];rw [dW hu (n+tm.length) (fun x hx=>h x (by simp [hx])),dV hu (fun i=>(h (m,tm) (by simp) i).1) (fun i=>(h (m,tm) (by simp) i).2)]
theorem K4 {F:Ar->Ar}: ∀ {l:List (DE T)} (n:Nat),(∀ e∈l,(q e.x=true-> ∀ t,(⟨e.id,t,g e.x⟩:DE T).toE =F e.toE)/\(q e.x=false->F e.toE=e.toE))->(Nl q g n l).map DE.toE=(l.map DE.toE).map F
 | [],_,_=>rfl
 | e::r,n,h=>by
   have ih:=K4 (n+1) (fun x hx=>h x (by simp [hx])) (l:=r);unfold Nl;split
   ·rename_i hq;simp only [map_cons,ih,(h e (by simp)).1 hq]
   ·rename_i hq;simp only [map_cons,ih,(h e (by simp)).2 hq]
end
theorem B1 (a b:Ad):AP a b=(a==b):=by grind [AE]
def vJ (id:Ad):C->Bool
 | .l_ i=>AP i id
 | .ptr i _=>AP i id
 | .bsl i _ _=>AP i id
 | .rsl i _ _ _=>AP i id
 | .bld i _=>AP i id
 | .acA i=>AP i id
 | .clo _ cs=>Bm id cs
 | .bmv _ cs=>Bm id cs
 | _=>false
theorem vK (id:Ad) (c:C):vJ id c=c.g_ id:=by cases c<;>simp only [vJ,C.g_,B1]
mutual
def DC.g_ (id:Ad):DC T->Bool
 | .c x=>vJ id x
 | .rp i _ _ _=>AP i id
 | .ap i _ _ _ _ _=>AP i id
 | .bs i _ _ _=>AP i id
 | .clo _ _ cs=>Og id cs
 | .k _ _=>false
 | .ip .. =>false
def Og (id:Ad):List (DC T)->Bool
 | []=>false
 | c::cs=>match c.g_ id with
   | true=>true
   | false=>Og id cs
end
mutual
theorem DC.adr (id:Ad): ∀ c:DC T,c.g_ id=c.toC.g_ id
 | .c x=>by simp only [DC.g_,DC.toC,vK]
 | .rp .. =>by simp only [DC.g_,DC.toC,C.g_,B1]
 | .ap .. =>by simp only [DC.g_,DC.toC,C.g_,B1]
 | .bs .. =>by simp only [DC.g_,DC.toC,C.g_,B1]
 | .clo true _ cs=>by simp only [DC.g_,DC.toC,C.g_,K5 id cs]
 | .clo false _ cs=>by simp only [DC.g_,DC.toC,C.g_,K5 id cs]
 | .k kd x=>by cases kd<;>simp only [DC.g_,DC.toC,AW,C.g_]
 | .ip .. =>by simp only [DC.g_,DC.toC,C.g_]
theorem K5 (id:Ad): ∀ cs:List (DC T),Og id cs=Bm id (Ap cs)
 | []=>by simp only [Og,Ap,Bm]
 | c::cs=>by simp only [Og,Ap,Bm,DC.adr id c,K5 id cs];cases c.toC.g_ id<;>rfl
end
mutual
def DV.g_ (id:Ad):DV T->Bool
 | .c x=>x.g_ id
 | .agg cs=>Og id cs
 | .tup vs=>X8 id vs
 | .g _ v=>v.g_ id
 | .u =>false
def X8 (id:Ad):List (DV T)->Bool
 | []=>false
 | v::vs=>match v.g_ id with
   | true=>true
   | false=>X8 id vs
end
mutual
theorem DV.adq (id:Ad): ∀ v:DV T,v.g_ id=false->v.toV.g_ id=false
 | .c x,h=>by grind [DV.g_,DV.toV,V.g_,DC.adr]
 | .agg cs,h=>by grind [DV.g_,DV.toV,V.g_,K5]
 | .tup vs,h=>by simp only [DV.g_]at h;simp only [DV.toV,V.g_];exact dX id vs h
 | .g k v,h=>by simp only [DV.g_]at h;simp only [DV.toV,V.g_,DV.adq id v h,Bool.false_and]
 | .u,_=>by simp only [DV.toV,V.g_]
theorem dX (id:Ad): ∀ vs:List (DV T),X8 id vs=false->Ij id (AQ vs)=false
 | [],_=>by simp only [AQ,Ij]
 | v::vs,h=>by
   simp only [X8]at h;split at h
   ·cases h
   ·rename_i hv;simp only [AQ,Ij,DV.adq id v hv,dX id vs h,Bool.or_self]
end
def Uo (id:Ad) (c:DC T):DC T:=match c.g_ id with
 | true=> .c .any
 | false=>c
def DX.g_ (id:Ad):DX T->Bool
 | .box cs=>Og id cs
 | .row _ _=>false
 | .deep .. =>false
def K6 (id:Ad):DX T->DX T
 | .box cs=> .box (cs.map (Uo id))
 | x=>x
def dY (p:DV T->Bool):Tm T->Bool
 | []=>true
 | (_,_,v)::r=>match p v with
   | true=>dY p r
   | false=>false
def lS (p:DV T->Bool):List (Nat×Tm T)->Bool
 | []=>true
 | (_,tm)::r=>match dY p tm with
   | true=>lS p r
   | false=>false
def lT (q:DX T->Bool):List (DE T)->Bool
 | []=>true
 | e::r=>match q e.x with
   | true=>lT q r
   | false=>false
theorem Nm {p:DV T->Bool} (hu:p .u =true): ∀ {tm:Tm T},dY p tm=true-> ∀ i,p (lk tm i)=true
 | [],_,i=>hu
 | (s,t,v)::r,h,i=>by
   simp only [dY]at h;split at h
   ·rename_i hv;simp only [lk];cases Nat.beq s i
    ·exact Nm hu h i
    ·exact hv
   ·cases h
theorem Up {p:DV T->Bool} (hu:p .u =true): ∀ {l:List (Nat×Tm T)},lS p l=true-> ∀ x∈l, ∀ i,p (lk x.2 i)=true
 | [],_,x,hx,_=>by cases hx
 | (m,tm)::r,h,x,hx,i=>by
   simp only [lS]at h;split at h
   ·rename_i hv;rcases mem_cons.1 hx with rfl | hx
    ·exact Nm hu hv i
    ·exact Up hu h x hx i
   ·cases h
theorem Uq {q:DX T->Bool}: ∀ {l:List (DE T)},lT q l=true-> ∀ e∈l,q e.x=true
 | [],_,e,he=>by cases he
 | x::r,h,e,he=>by
   simp only [lT]at h;split at h
   ·rename_i hv;rcases mem_cons.1 he with rfl | he
    ·exact hv
    ·exact Uq h e he
   ·cases h
def Ac.aif (st:Ac T) (id:Ad):Bool:=dY (fun v=> !(v.g_ id)) st.tm&&(lS (fun v=> !(v.g_ id)) st.gh&&lT (fun x=> !(x.g_ id)) st.so)
def Ac.kill (st:Ac T) (id:Ad):Option (Ac T):=match Cf id||DF id with
 | true=>none
 | false=>match st.aif id with
   | true=>some {st with so:=st.so.filter fun e=> !(AP e.id id)}
   | false=>some (let s:=st.abz (DV.g_ id) (fun _=> .u) (DX.g_ id) (K6 id);{s with so:=s.so.filter fun e=> !(AP e.id id)})
theorem oa {id:Ad} {c:DC T} (h:c.ok):(Uo id c).ok :=by grind [Uo,DC.ok]
theorem iU (id:Ad) (c:DC T):(Uo id c).toC =Ft id c.toC:=by grind [Uo,Ft,DC.adr,DC.toC]
theorem FD {α:Type} {F:α->α}: ∀ {l:List α},(∀ x∈l,F x=x)->l.map F=l
 | [],_=>rfl
 | a::l,h=>by rw [map_cons,h a (by simp),FD (fun x hx=>h x (by simp [hx]))]
theorem rh {F:V->V} {m:Nat} {tm:Tm T} (h: ∀ i,F (lk tm i).toV =(lk tm i).toV):(Aw m tm).map F=Aw m tm:=by refine FD fun x hx=>?_;obtain⟨i,_,rfl⟩:=mem_map.1 hx;exact h i
theorem Acr {F:V->V} {l:List (Nat×Tm T)} (h: ∀ x∈l, ∀ i,F (lk x.2 i).toV =(lk x.2 i).toV):(l.flatMap fun f=>Aw f.1 f.2).map F=l.flatMap fun f=>Aw f.1 f.2:=by refine FD fun x hx=>?_;obtain⟨y,hy,hx⟩:=List.mem_flatMap.1 hx;obtain⟨i,_,rfl⟩:=mem_map.1 hx;grind
def Gz:List V->List V->Prop
 | [],[]=>True
 | x::xs,y::ys=>(y= .undef \/y=x)/\Gz xs ys
 | _,_=>False
theorem Gz.refl: ∀ l:List V,Gz l l
 | []=>trivial
 | x::xs=>⟨.inr rfl,Gz.refl xs⟩
theorem Gz.append: ∀ {a b c d:List V},Gz a b->Gz c d->Gz (a++c) (b++d)
 | [],[],_,_,_,h=>h
 | [],_::_,_,_,h,_=>h.elim
 | _::_,[],_,_,h,_=>h.elim
 | _::_,_::_,_,_,h,k=>⟨h.1,h.2.append k⟩
theorem Gz.get: ∀ {a b:List V},Gz a b->b.length=a.length/\ ∀ i,b.getD i .undef = .undef \/b.getD i .undef =a.getD i .undef
 | [],[],_=>(by grind)
 | [],_::_,h=>h.elim
 | _::_,[],h=>h.elim
 | x::xs,y::ys,h=>by
   obtain⟨h1,h2⟩:=Gz.get h.2;refine⟨by simp [h1],fun i=>?_⟩;cases i with
   | zero=>simpa using h.1
   | succ i=>simpa using h2 i
theorem Gz.map {α:Type} {f g:α->V}: ∀ {l:List α},(∀ x∈l,g x= .undef \/g x=f x)->Gz (l.map f) (l.map g)
 | [],_=>trivial
 | a::l,h=>⟨h a (by simp),Gz.map fun x hx=>h x (by simp [hx])⟩
theorem Gz.set: ∀ {a b:List V},Gz a b-> ∀ (i:Nat) (v:V),Gz (a.set i v) (b.set i v)
 | [],[],_,_,_=>trivial
 | [],_::_,h,_,_=>h.elim
 | _::_,[],h,_,_=>h.elim
 | _::_,_::_,h,0,v=>⟨.inr rfl,h.2⟩
 | _::_,_::_,h,i+1,v=>⟨h.1,h.2.set i v⟩
theorem Gz.of {a b:List V} (hl:b.length=a.length) (h: ∀ i,b.getD i .undef = .undef \/b.getD i .undef =a.getD i .undef):Gz a b:=by
 induction a generalizing b with
 | nil=>
   cases b with
   | nil=>trivial
   | cons y ys=>simp at hl
 | cons x xs ih=>
   cases b with
   | nil=>simp at hl
   | cons y ys=>exact⟨by simpa using h 0,ih (by grind) (fun i=>by simpa using h (i+1))⟩
theorem B0.put {a b:St} (h:B0 a b) (d:Option Nat) (v:V):B0 (a.put d v) (b.put d v):=by
 cases d with
 | none=>exact h
 | some d=>
   have:=((Gz.of h.len h.tm).set d v).get;exact⟨this.1,this.2,h.so,h.nd,h.gh,h.pre⟩
theorem Dg {H:Aq T} {st:Ac T} (h:Ay H st) (p:DE T->Bool):Ay H {st with so:=st.so.filter p}:=
 ⟨h.tm,h.gh,fun e he=>h.so e (by grind),List.Sublist.nodup (by grind [List.filter_sublist]) h.nd⟩
theorem Ur (id:Ad) (hd:Cf id=false) (l:List (DE T)):(l.filter fun e=> !(AP e.id id)).map DE.toE=(l.map DE.toE).filter (fun e=>e.id != id&& !(Cf id&&DF e.id)):=by
 induction l with
 | nil=>rfl
 | cons e l ih=>
   simp only [List.filter_cons,map_cons,DE.toE_id,hd,Bool.false_and,Bool.not_false,Bool.and_true,B1]at ih ⊢;grind
theorem ZW {id:Ad} {e:DE T} (h:e.x.g_ id=false):e.toE.fre id=true:=by grind [Ar.fre,DE.toE,DX.g_,K5]
theorem iV {id:Ad} {e:DE T} (t:Nat):(⟨e.id,t,K6 id e.x⟩:DE T).toE =Ar.kill id e.toE:=by
 unfold DE.toE;cases hxx:e.x with
 | box cs=>
   simp only [K6,Ar.kill,BT,map_map,Ar.mk.injEq,and_true,true_and];grind [List.map_congr_left,iU]
 | row E l=>rfl
 | deep E n l h=>rfl
theorem dZ (id:Ad) (p:Ad->Bool->Bool) (l:List Ar):(l.map (Ar.kill id)).filter (fun e=>e.id != id&& !(Cf id&&DF e.id))=(l.filter (fun e=>e.id != id&& !(Cf id&&DF e.id))).map (Ar.kill id):=by induction l<;>grind [Ar.x_]
theorem d7 {id:Ad} {m n:Nat} {tm:Tm T}:Gz ((Aw m tm).map (DB id)) (Aw m (MA (DV.g_ id) (fun _=> .u) n tm)):=by unfold Aw;rw [map_map];refine Gz.map fun i _=>?_;simp only [Function.comp,JB (p:=DV.g_ id) (f:=fun _=>DV.u) (by simp [DV.g_])];grind [DV.toV,T4,DV.adq]
theorem yv {id:Ad}: ∀ (l:List (Nat×Tm T)) (n:Nat),Gz ((l.flatMap fun f=>Aw f.1 f.2).map (DB id)) ((Nk (DV.g_ id) (fun _=> .u) n l).flatMap fun f=>Aw f.1 f.2)
 | [],_=>trivial
 | (m,tm)::r,n=>by simp only [Nk,flatMap_cons,map_append];exact d7.append (yv r _)
theorem Ac.agb {H:Aq T} {st an:Ac T} {id:Ad} (h:Ay H st) (hk:st.kill id=some an):(∃ H',Nx H st H' an)/\B0 (st.toSt.kill id) an.toSt/\an.toSt.so=(st.toSt.kill id).so /\Cf id=false/\DF id=false/\an.pre=st.pre/\ ∀ e∈an.so,e.id ≠ id:=by
 have nid: ∀ l:List (DE T), ∀ e∈l.filter (fun e=> !(AP e.id id)),e.id ≠ id:=(by grind [AE]);unfold Ac.kill at hk;split at hk
 ·cases hk
 ·rename_i hd;simp only [or_eq_false_iff]at hd;split at hk
  ·rename_i hn;injection hk with hk;subst hk;simp only [Ac.aif,and_eq_true]at hn;obtain⟨n1,n2,n3⟩:=hn;have k1: ∀ i,DB id (lk st.tm i).toV =(lk st.tm i).toV :=(by grind [T4,DV.adq,Nm,DV.g_]);have k2: ∀ x∈st.gh, ∀ i,DB id (lk x.2 i).toV =(lk x.2 i).toV :=fun x hx i=>(by grind [T4,DV.adq,Up,DV.g_]);have e:(({st with so:=st.so.filter fun e=> !(AP e.id id)}:Ac T)).toSt =st.toSt.kill id:=by simp only [Ac.toSt,St.kill,St.mk.injEq,and_true];refine⟨(rh k1).symm,?_,(Acr k2).symm⟩;rw [Ur id hd.1];refine(FD fun e he=>?_).symm;obtain⟨x,hx,rfl⟩:=mem_map.1 (List.mem_filter.1 he).1;grind [Uq,Ar.acC,ZW]
   exact⟨⟨H,Ch.refl _ _,le_refl _,Dg h _⟩,e▸B0.refl _,by rw [e],hd.1,hd.2,rfl,nid _⟩
  ·injection hk with hk;subst hk;obtain⟨H',hN⟩:=Ac.abI (p:=DV.g_ id) (f:=fun _=> .u) (q:=DX.g_ id) (g:=K6 id) h (fun _=>by simp only [DV.ok]) (fun {x} hx=>by
    cases x with
    | box cs=>
      simp only [K6,DX.ok]at hx ⊢;refine Cp.2 fun c hc=>?_;obtain⟨d,h1,rfl⟩:=mem_map.1 hc;grind [oa,Cp]
    | row E l=>exact hx
    | deep E n l h=>exact hx)
   have hso:(((Nl (DX.g_ id) (K6 id) (st.nx+st.tm.length+J8 st.gh) st.so).filter fun e=> !(AP e.id id)).map DE.toE)=(st.toSt.kill id).so :=by rw [Ur id hd.1,K4 (F:=Ar.kill id) _ (fun e _=>⟨fun _ t=>iV t,fun hm=>Ar.acC (ZW hm)⟩)];exact dZ id (fun _ _=>true) _
   refine⟨⟨H',hN.ext,hN.le,Dg hN.ok _⟩,?_,hso,hd.1,hd.2,rfl,nid _⟩;have a:=(d7 (id:=id) (m:=st.m) (n:=st.nx) (tm:=st.tm)).get;have b:=(yv (id:=id) st.gh (st.nx+st.tm.length)).get;exact⟨a.1,a.2,fun e he=>by rw [<-hso];exact he,fun hn=>by have:(Ac.toSt {(st.abz (DV.g_ id) (fun _=> .u) (DX.g_ id) (K6 id))with so:=(st.abz (DV.g_ id) (fun _=> .u) (DX.g_ id) (K6 id)).so.filter fun e=> !(AP e.id id)}).so =(st.toSt.kill id).so :=hso;grind,b,rfl⟩
def Ac.new (st:Ac T) (id:Ad) (x:DX T):Option (Ac T):=match st.kill id,x.g_ id with
 | some s,false=>some {s with so:=⟨id,s.nx,x⟩::s.so,nx:=s.nx+1}
 | _,_=>none
theorem Ac.aaK {H:Aq T} {st an:Ac T} {id:Ad} {x:DX T} (h:Ay H st) (hx:x.ok) (hk:st.new id x=some an):(∃ H',Nx H st H' an)/\B0 (st.toSt.new (⟨id,0,x⟩:DE T).toE) an.toSt/\an.pre=st.pre:=by
 unfold Ac.new at hk;split at hk
 ·rename_i s hs hm;injection hk with hk;subst hk;obtain⟨⟨H',hN⟩,h2,h2',h3,h4,h5,h6⟩:=Ac.agb h hs;have he:=Ch.C_ H' s.nx ⟨id,s.nx,x⟩;refine⟨⟨H'.C_ s.nx ⟨id,s.nx,x⟩,hN.trans ⟨he,le_succ _,?_,?_,?_,?_⟩⟩,?_,h5⟩
  ·exact Bn he (le_succ _) hN.ok.tm
  ·exact fun f hf=>Bn he (le_succ _) (hN.ok.gh f hf)
  ·intro e hm';rcases mem_cons.1 hm' with rfl | hm'
   ·simp_all [Aq.C_]
   ·exact DM he (le_succ _) hN.ok.so e hm'
  ·rw [map_cons];refine nodup_cons.2 ⟨fun hm'=>?_,hN.ok.nd⟩;grind
  ·have e1:(⟨id,0,x⟩:DE T).toE.id =id:=DE.toE_id _;have e2:(⟨id,s.nx,x⟩:DE T).toE =(⟨id,0,x⟩:DE T).toE :=rfl;have e3:Ar.kill id (⟨id,0,x⟩:DE T).toE =(⟨id,0,x⟩:DE T).toE :=Ar.acC (ZW hm);have e5:(st.toSt.new (⟨id,0,x⟩:DE T).toE).so =(⟨id,0,x⟩:DE T).toE ::s.toSt.so:=by grind [St.new,QQ]
   have e6:(Ac.toSt {s with so:=⟨id,s.nx,x⟩::s.so,nx:=s.nx+1}).so =(⟨id,0,x⟩:DE T).toE ::s.toSt.so:=rfl;have hl:=h2;rw [show (st.toSt.kill id)=st.toSt.kill (⟨id,0,x⟩:DE T).toE.id by rw [e1]]at hl;exact⟨hl.len,hl.tm,(by grind),(by grind),hl.gh,by show s.pre=st.pre;exact h5⟩
 ·cases hk
end Go.PL
namespace Go.PL
open Go Go.RowKit
variable {T:AX}
def J9 (id:Ad) (E:Nat) (l:List (T.den E)) (c:DC T):DC T:=match c.g_ id with
 | false=>c
 | true=>match c with
   | .c (.l_ _)=> .k (.w_ E) l
   | _=> .c .any
mutual
def Dh (id:Ad) (E:Nat) (l:List (T.den E)):DV T->DV T
 | .c x=> .c (J9 id E l x)
 | .agg cs=> .agg (cs.map (J9 id E l))
 | .tup vs=> .tup (He id E l vs)
 | .g k v=> .g k (Dh id E l v)
 | .u => .u
def He (id:Ad) (E:Nat) (l:List (T.den E)):List (DV T)->List (DV T)
 | []=>[]
 | v::vs=>Dh id E l v::He id E l vs
end
def X9 (id:Ad) (E:Nat) (l:List (T.den E)):DX T->DX T
 | .box cs=> .box (cs.map (J9 id E l))
 | x=>x
def Ac.frz (st:Ac T) (id:Ad):Option (Ac T):=match CI st id with
 | some ⟨E,l⟩=>some (let s:=st.abz (DV.g_ id) (Dh id E l) (DX.g_ id) (X9 id E l);{s with so:=s.so.filter fun e=> !(AP e.id id)})
 | none=>none
section
variable {id:Ad} {E:Nat} {l:List (T.den E)}
theorem Ya (c:DC T):(J9 id E l c).toC =HJ id l.length (l.flatMap (T.enc E)) c.toC:=by
 unfold J9;cases hm:c.g_ id with
 | false=>
   rw [DC.adr]at hm;simp only;cases hc:c.toC<;>rw [hc]at hm<;>simp only [C.g_,beq_eq_false_iff_ne,ne_eq]at hm<;>simp only [HJ]<;>first
    | grind
    | grind
    | rfl
 | true=>
   have hm':=hm;rw [DC.adr]at hm';simp only;split
   ·simp_all [DC.g_,vJ,AE,DC.toC,AW,HJ]
   ·rename_i n_;have: ∀ i,c.toC ≠ .l_ i:=fun i he=>by
     cases c with
     | c x=>simp only [DC.toC]at he;simp_all
     | k kd x=>cases kd<;>simp [DC.toC,AW]at he
     | ip=>simp [DC.toC]at he
     | rp=>simp [DC.toC]at he
     | ap=>simp [DC.toC]at he
     | bs=>simp [DC.toC]at he
     | clo b f cs=>cases b<;>simp [DC.toC]at he
    cases hc:c.toC<;>rw [hc]at hm' this<;>simp only [C.g_,beq_iff_eq,Bool.false_eq_true]at hm'<;>simp only [HJ,DC.toC]<;>first
     | grind
     | grind
theorem Us {c:DC T} (h:c.ok):(J9 id E l c).ok :=by unfold J9;grind [DC.ok]
theorem Ut (cs:List (DC T)):Ap (cs.map (J9 id E l))=(Ap cs).map (HJ id l.length (l.flatMap (T.enc E))):=by grind [BT,List.map_congr_left,Ya]
mutual
theorem P0: ∀ v:DV T,(Dh id E l v).toV =IS id l.length (l.flatMap (T.enc E)) v.toV
 | .c x=>by simp only [Dh,DV.toV,IS,Ya]
 | .agg cs=>by simp only [Dh,DV.toV,IS,Ut]
 | .tup vs=>by simp only [Dh,DV.toV,IS,Uu vs]
 | .g k v=>by simp only [Dh,DV.toV,IS,P0 v]
 | .u =>by simp only [Dh,DV.toV,IS]
theorem Uu: ∀ vs:List (DV T),AQ (He id E l vs)=J6 id l.length (l.flatMap (T.enc E)) (AQ vs)
 | []=>by simp only [He,AQ,J6]
 | v::vs=>by simp only [He,AQ,J6,P0 v,Uu vs]
end
theorem Uv: ∀ {cs:List (DC T)},Og id cs=false->cs.map (J9 id E l)=cs
 | [],_=>rfl
 | c::cs,h=>by
   simp only [Og]at h;split at h
   ·cases h
   ·rename_i hc;have:J9 id E l c=c:=by unfold J9;simp only [hc]
    rw [map_cons,Uv h,this]
mutual
theorem Uw: ∀ v:DV T,v.g_ id=false->Dh id E l v=v
 | .c x,h=>by simp_all [DV.g_,Dh,J9]
 | .agg cs,h=>by grind [DV.g_,Dh,Uv]
 | .tup vs,h=>by simp only [DV.g_]at h;simp only [Dh,Yb vs h]
 | .g k v,h=>by simp only [DV.g_]at h;simp only [Dh,Uw v h]
 | .u,_=>by simp only [Dh]
theorem Yb: ∀ vs:List (DV T),X8 id vs=false->He id E l vs=vs
 | [],_=>by simp only [He]
 | v::vs,h=>by
   simp only [X8]at h;split at h
   ·cases h
   ·rename_i hv;simp only [He,Uw v hv,Yb vs h]
end
theorem Oh {f:DC T->DC T} (hf: ∀ c,c.ok->(f c).ok) {cs:List (DC T)} (h:Bx cs):Bx (cs.map f):=Cp.2 fun c hc=>by obtain⟨d,h1,rfl⟩:=mem_map.1 hc;grind [Cp]
mutual
theorem Ux {H:Aq T} {n:Nat}: ∀ {v:DV T},v.ok H n->(Dh id E l v).ok H n
 | .c x,h=>by grind [DV.ok,Dh,Us]
 | .agg cs,h=>by grind [DV.ok,Dh,Oh,Us]
 | .tup vs,h=>by simp only [DV.ok,Dh]at h ⊢;exact Yc h
 | .g k v,h=>by simp only [DV.ok,Dh]at h ⊢;exact⟨h.1,fun q=>Ux (h.2 q)⟩
 | .u,_=>by simp only [DV.ok,Dh]
theorem Yc {H:Aq T} {n:Nat}: ∀ {vs:List (DV T)},B7 H n vs->B7 H n (He id E l vs)
 | [],_=>by simp only [B7,He]
 | v::vs,h=>by simp only [B7,He]at h ⊢;exact⟨Ux h.1,Yc h.2⟩
end
theorem Yd {e:DE T} (t:Nat):(⟨e.id,t,X9 id E l e.x⟩:DE T).toE =Ar.frz id l.length (l.flatMap (T.enc E)) e.toE:=by grind [DE.toE,X9,Ar.frz,Ut]
theorem ri {e:DE T} (h:e.x.g_ id=false):Ar.frz id l.length (l.flatMap (T.enc E)) e.toE=e.toE:=by rw [<-Yd e.tag];grind [DX.g_,X9,Uv,DE.toE]
theorem iW (id:Ad) (n:Nat) (cs:List C) (l:List Ar):(l.map (Ar.frz id n cs)).filter (fun e=>e.id != id)=(l.filter (fun e=>e.id != id)).map (Ar.frz id n cs):=by induction l<;>grind [Ar.aeA]
theorem ac3 (id:Ad) (l:List (DE T)):(l.filter fun e=> !(AP e.id id)).map DE.toE=(l.map DE.toE).filter (fun e=>e.id != id):=by induction l<;>grind [DE.toE_id,B1]
end
theorem Ac.acG {H:Aq T} {st an:Ac T} {id:Ad} (h:Ay H st) (hk:st.frz id=some an):(∃ H',Nx H st H' an)/\an.toSt=st.toSt.freeze id/\st.toSt.aaI id=true/\an.pre=st.pre:=by
 unfold Ac.frz at hk;split at hk
 ·rename_i E l hr;injection hk with hk;subst hk;obtain⟨hl,_,_⟩:=Bg hr;obtain⟨H',hN⟩:=Ac.abI (p:=DV.g_ id) (f:=Dh id E l) (q:=DX.g_ id) (g:=X9 id E l) h Ux (fun {x} hx=>by cases x<;>grind [X9,DX.ok,Oh,Us])
  refine⟨⟨H',hN.ext,hN.le,Dg hN.ok _⟩,?_,by simp only [St.aaI,hl],rfl⟩;have F1: ∀ tm:Tm T, ∀ i,(DV.g_ id (lk tm i)=true->(Dh id E l (lk tm i)).toV =IS id l.length (l.flatMap (T.enc E)) (lk tm i).toV)/\(DV.g_ id (lk tm i)=false->IS id l.length (l.flatMap (T.enc E)) (lk tm i).toV =(lk tm i).toV):=fun tm i=>
   (by grind [P0,Uw])
  have fm: ∀ l':List V,J6 id l.length (l.flatMap (T.enc E)) l'=l'.map (IS id l.length (l.flatMap (T.enc E))):=by intro l';induction l'<;>grind [J6]
  unfold St.freeze;rw [hl];simp only [Bool.not_true,Bool.false_eq_true,if_false,Ac.toSt,Ac.abz,St.mk.injEq,and_true,fm];refine⟨(by grind [dV,DV.g_]),?_,(by grind [dW,DV.g_])⟩;rw [ac3,K4 (F:=Ar.frz id l.length (l.flatMap (T.enc E))) _ (fun e _=>⟨fun _ t=>Yd t,fun hm=>ri hm⟩)];exact iW _ _ _ _
 ·cases hk
def P1 (id:Ad) (t:Nat) (x:DX T):List (DE T)->List (DE T)
 | []=>[]
 | e::r=>match AP e.id id with
   | true=>⟨e.id,t,x⟩::r
   | false=>e::P1 id t x r
def Ac.aaf (st:Ac T) (id:Ad) (x:DX T):Ac T:={st with so:=P1 id st.nx x st.so,nx:=st.nx+1}
theorem Uy (id:Ad) (t:Nat) (x:DX T): ∀ l:List (DE T),(P1 id t x l).map DE.id=l.map DE.id
 | []=>rfl
 | e::r=>by unfold P1;split<;>simp [Uy id t x r]
theorem Uz {id:Ad} {t:Nat} {x:DX T} {F:Ar->Ar} (hF: ∀ a:Ar,a.id ≠ id->F a=a): ∀ {l:List (DE T)} {e:DE T},(l.map DE.id).Nodup ->e∈l->e.id=id->F e.toE=(⟨id,t,x⟩:DE T).toE ->(l.map DE.toE).map F=(P1 id t x l).map DE.toE
 | [],_,_,h,_,_=>by cases h
 | a::r,e,hn,hm,he,hf=>by
   rw [map_cons]at hn;obtain⟨n1,n2⟩:=nodup_cons.1 hn;unfold P1;split
   ·rename_i hb;have hb:=AE.1 hb;have hae:a=e:=by grind
    subst hae;simp only [map_cons,hf];rw [<-hb];congr 1;refine FD fun y hy=>?_;obtain⟨z,hz,rfl⟩:=mem_map.1 hy;grind [DE.toE_id]
   ·rename_i hb;have n_:a.id ≠ id:=fun q=>by rw [AE.2 q]at hb;cases hb
    have hm':e∈r:=by
     rcases mem_cons.1 hm with q | q
     ·subst q;exact absurd he n_
     ·exact q
    simp only [map_cons,Uz hF n2 hm' he hf];rw [hF _ (by rw [DE.toE_id];exact n_)]
theorem Ac.aab {H:Aq T} {st:Ac T} (h:Ay H st) (id:Ad) {x:DX T} (hx:x.ok): ∃ H',Nx H st H' (st.aaf id x):=by
 by_cases hid: ∃ e∈st.so,e.id=id
 ·obtain⟨e0,_,he0⟩:=hid;have he:=Ch.C_ H st.nx ⟨id,st.nx,x⟩;refine⟨H.C_ st.nx ⟨id,st.nx,x⟩,he,le_succ _,Bn he (le_succ _) h.tm,fun f hf=>Bn he (le_succ _) (h.gh f hf),?_,by simp only [Ac.aaf,Uy];exact h.nd⟩;have key: ∀ l:List (DE T),(∀ e∈l,e.tag<st.nx/\H.e e.tag=e/\e.x.ok)-> ∀ e∈P1 id st.nx x l,e.tag<st.nx+1/\(H.C_ st.nx ⟨id,st.nx,x⟩).e e.tag=e/\e.x.ok:=by
   intro l;induction l with
   | nil=>intro _ e hm;cases hm
   | cons a r ih=>
     intro hl e hm;unfold P1 at hm;split at hm
     ·rename_i hb;have hb:=AE.1 hb;rcases mem_cons.1 hm with rfl | hm
      ·simp_all [Aq.C_]
      ·exact DM he (le_succ _) hl e (by simp [hm])
     ·rcases mem_cons.1 hm with rfl | hm
      ·exact DM he (le_succ _) hl e (by simp)
      simp_all
  exact key st.so h.so
 ·have: ∀ l:List (DE T),(∀ e∈l,e.id ≠ id)->P1 id st.nx x l=l:=by intro l;induction l<;>grind [P1,AE]
  have hs:P1 id st.nx x st.so=st.so:=(by grind);exact⟨H,Ch.refl _ _,le_succ _,Bn (Ch.refl _ _) (le_succ _) h.tm,fun f hf=>Bn (Ch.refl _ _) (le_succ _) (h.gh f hf),by simp only [Ac.aaf,hs];exact DM (Ch.refl _ _) (le_succ _) h.so,by simp only [Ac.aaf,hs];exact h.nd⟩
theorem Ac.ab4 {H:Aq T} {st:Ac T} (h:Ay H st) {id:Ad} {x:DX T} {e:DE T} (hm:e∈st.so) (he:e.id=id) {cs:List C} {q:Bool} (hx:(⟨id,e.toE.row,cs,e.toE.pu&&q⟩:Ar)=(⟨id,st.nx,x⟩:DE T).toE):(st.aaf id x).toSt =st.toSt.abc id cs q:=by have:=Uz (t:=st.nx) (x:=x) (F:=fun e=>if e.id==id then⟨e.id,e.row,cs,e.pu&&q⟩else e) (by grind) h.nd hm he (by grind [DE.toE_id]);simp_all [Ac.toSt,Ac.aaf,St.abc]
end Go.PL
namespace Go.PL
open Go Go.RowKit
variable {T:AX}
def d8:Operand->DV T->DV T
 | .const (.slice none 0 0),_=> .c (.c .P_)
 | _,v=>v
def iX:DV T->DV T
 | .c (.c .P_)=> .c (.c (.sl 0 []))
 | v=>v
def Ro {α:Type} (i:Nat) (x:α):Nat->List α->List α
 | _,[]=>[]
 | j,a::r=>(if i=j then x else a)::Ro i x (j+1) r
theorem d9 {α:Type} {i:Nat} {x:α}: ∀ (l:List α) (j:Nat),j<=i->Ro i x j l=l.set (i - j) x
 | [],_,_=>rfl
 | a::r,j,h=>by
   unfold Ro;by_cases hj:i=j
   ·subst hj;simp only [if_true,Nat.sub_self,List.set_cons_zero,List.cons.injEq,true_and];have: ∀ (r:List α) (k:Nat),i<k->Ro i x k r=r:=by
     intro r;induction r with
     | nil=>intro _ _;rfl
     | cons b r ih=>intro k hk;rw [Ro,if_neg (by omega),ih _ (by omega)]
    grind
   ·rw [if_neg hj,d9 r (j+1) (by omega),show i - j=(i - (j+1))+1 by omega,List.set_cons_succ]
def K7 (E:Nat):List (T.den E)->List (DC T)
 | []=>[]
 | x::l=>ZU E x++K7 E l
theorem Rp (E:Nat): ∀ l:List (T.den E),Ap (K7 E l)=l.flatMap (T.enc E)
 | []=>by simp [K7,Ap]
 | x::l=>by rw [K7,BY,Eo,Rp E l,flatMap_cons]
theorem Ye (E:Nat): ∀ l:List (T.den E),Bx (K7 E l)
 | []=>by simp [K7,Bx]
 | x::l=>Cq (JA E x) (Ye E l)
def vM (E:Nat) (x:T.den E) (off:Nat) (cs:List (DC T)):Option (T.den E):=match Nat.ble (off+cs.length) (T.sz E)with
 | true=>pY false E ((ZU E x).take off++(cs++(ZU E x).drop (off+cs.length)))
 | false=>none
def iY (P:Program) (t:TypeId) (d:Option Nat) (st:Ac T) (p v:DV T):M (Ac T):=
 match FW P t with
 | none=> .no
 | some (_,n)=>match p with
   | .c (.c (.ptr id off))=>match G8 st id,v.cells with
     | some ds,some cs=>A_ (Nat.beq cs.length n&&Nat.ble (off+n) ds.length) (.ret ((st.aaf id (.box (ds.take off++(cs++ds.drop (off+n))))).put d .u))
     | _,_=> .no
   | .c (.rp id N i off)=>match CI st id,(iX v).cells with
     | some ⟨E,l⟩,some cs=>A_ (Nat.beq N (T.sz E)&&Nat.beq cs.length n) (.opt (idx l i) fun x=>match vM E x off cs with
       | some x'=> .ret ((st.aaf id (.row E (l.set i.toNat x'))).put d .u)
       | none=> .no)
     | _,_=> .no
   | .c (.ap id base m E i off)=>match G8 st id,v.cells with
     | some ds,some cs=>match Il E m (ds.drop base)with
       | some l=>A_ (Nat.beq cs.length n&&Nat.ble (base+m*T.sz E) ds.length) (.opt (idx l i) fun x=>match vM E x off cs with
         | some x'=> .ret ((st.aaf id (.box (ds.take base++(K7 E (Ro i.toNat x' 0 l)++ds.drop (base+m*T.sz E))))).put d .u)
         | none=> .no)
       | none=> .no
     | _,_=> .no
   | _=> .no
def Hf (st:Ac T) (d:Nat) (x:DX T) (v:Ad->DC T):M (Ac T):=match st.new (d::st.pre) x with
 | some s=> .ret (s.put (some d) (.c (v (d::st.pre))))
 | none=> .no
def Nn (P:Program) (t:TypeId):Option (List (DC T)):=
 match P.info? t with
 | some i=>match i.zero with
   | some z=>G7 z.cells.toList
   | none=>none
 | none=>none
def UA:DC T->DC T
 | .c .P_ => .c (.sl 0 [])
 | c=>c
def P2:DV T->DV T
 | .c x=> .c (UA x)
 | .agg cs=> .agg (cs.map UA)
 | v=>v
def K8 (P:Program) (st:Ac T) (d:Nat) (t:TypeId) (len:Nat) (ps:List (Nat×Operand)):M (Ac T):=
 match Cw P t,EZ st [] ps with
 | some (E,n,_),some vs=>match Nn P E with
   | some z=>match Rn (fun i=>some (i*n,n)) ((List.replicate len z).flatMap id) (vs.map fun x=>(x.1,P2 x.2))with
     | some cs=>match Il E len cs with
       | some l=>A_ (Nat.beq n (T.sz E)&&(Nat.beq z.length n&&(Nat.blt 0 n&&(Nat.ble (len*n) (2 ^ 24)&&Nat.beq cs.length (len*n))))) (Hf st d (.row E l) fun i=> .c (.l_ i))
       | none=> .no
     | none=> .no
   | none=> .no
 | _,_=> .no
def No (P:Program) (st:Ac T) (d:Nat) (t:TypeId) (l c:Int):M (Ac T):=
 match Cw P t with
 | some (E,n,by')=>match Nn P E with
   | some z=>match pY false E z with
     | some x=>A_ (Nat.beq n (T.sz E)&&(Nat.beq z.length n&&Nat.blt 0 n)) (.opt (DG (0<=l/\l<=c/\c*by'<=140737488355328/\c<=maxLen)) fun _=>Hf st d (.row E (List.replicate l.toNat x)) fun i=> .c (.l_ i))
     | none=> .no
   | none=> .no
 | none=> .no
def HV:DC T->Option Ad
 | .c (.l_ id)=>some id
 | _=>none
theorem Di {c:DC T} {id:Ad} (h:HV c=some id):c= .c (.l_ id):=by unfold HV at h;grind
def zz (st:Ac T) (E:Nat):DV T->Option (List (T.den E))
 | .c x=>match HV x with
   | some id=>match CI st id with
     | some ⟨E',l⟩=>Fz false (.w_ E) (.k (.w_ E') l)
     | none=>none
   | none=>Fz false (.w_ E) x
 | _=>none
def ZX (P:Program) (st:Ac T) (d:Nat) (t:TypeId) (u x:DV T):M (Ac T):=
 match u,Cw P t with
 | .c (.c (.l_ id)),some (E',n,by')=>match CI st id with
   | some ⟨E,l⟩=>match zz st E x with
     | some m=>A_ (Nat.beq E' E&&(Nat.beq n (T.sz E)&&Nat.blt 0 n)) (.opt (app by' l m) fun r=>match st.new id (.row E r)with
       | some s=> .ret (s.put (some d) (.c (.c (.l_ id))))
       | none=> .no)
     | none=> .no
   | none=> .no
 | _,_=> .no
def oc (P:Program) (st:Ac T) (o:Oper):M (Ac T):=
 match o.op with
 | .store t x y=>match st.arg [] x,st.arg [] y with
   | some p,some v=>iY P t o.dst st p (d8 y v)
   | _,_=> .no
 | op=>match o.dst with
   | none=> .no
   | some d=>match op with
     | .alloc t=>match Un P t with
       | some cs=>Hf st d (.box cs) fun i=> .c (.ptr i 0)
       | none=> .no
     | .box _ x=>match st.arg [] x with
       | some v=>match v.cells with
         | some cs=>Hf st d (.box cs) fun i=> .c (.ptr i 0)
         | none=> .no
       | none=> .no
     | .assign (.const (.slice none 0 0))=>match Ck P o.type with
       | some (E,n)=>A_ (Nat.beq n (T.sz E)) (Hf st d (.row E []) fun i=> .c (.l_ i))
       | none=> .no
     | .buildSlice t len ps=>K8 P st d t len ps.toList
     | .makeSlice t l c=>match st.arg [] l,st.arg [] c with
       | some (.c (.k (.int _) l)),some (.c (.k (.int _) c))=>No P st d t l c
       | _,_=> .no
     | .call c=>match c.callee,c.args.toList,c.argTypes.toList with
       | .builtin .append,[u,x],[t,t']=>match st.arg [] u,st.arg [] x with
         | some a,some b=>A_ (Nat.beq t t') (ZX P st d t a b)
         | _,_=> .no
       | _,_,_=> .no
     | _=> .no
def Ef (H:Aq T) (P:Program) (st:Ac T) (o:Oper) (an:Ac T):Prop:=
 (∃ H',Nx H st H' an)/\(ef P st.toSt o).1/\B0 (ef P st.toSt o).2 an.toSt/\an.pre=st.pre
section
variable {H:Aq T} {P:Program} {st:Ac T}
theorem Ac.r_ {H:Aq T} {st s:Ac T} {H1:Aq T} (h:Nx H st H1 s) (d:Option Nat) {v:DV T} (hv:v.ok H1 s.nx): ∃ H',Nx H st H' (s.put d v):=by obtain⟨H2,h2⟩:=Ac.O_ h.ok d hv;exact⟨H2,h.trans h2⟩
theorem AH (s:Ac T) (d:Option Nat) (v:DV T):(s.put d v).pre =s.pre:=by cases d<;>rfl
theorem FE {d:Nat} {x:DX T} {v:Ad->DC T} (hw:Ay H st) (hx:x.ok) (hv: ∀ i,(v i).ok):
 Yl (Hf st d x v) (fun an=>(∃ H',Nx H st H' an)/\B0 ((st.toSt.new (⟨d::st.pre,0,x⟩:DE T).toE).put (some d) (.c (v (d::st.pre)).toC)) an.toSt/\an.pre=st.pre):=by
 unfold Hf;split
 ·rename_i s hs;obtain⟨⟨H',hN⟩,h2,h3⟩:=Ac.aaK hw hx hs;refine Yl.ret ⟨Ac.r_ hN _ (by grind [DV.ok]),?_,by rw [AH];exact h3⟩;rw [Ac.d_];exact h2.put _ _
 ·exact Yl.no
theorem ec {v:DV T} {id:Ad} {off:Nat} {e:Ar} (he:st.toSt.look id=some e) (hr:e.row.isSome=true):R7 st.toSt (.c (.ptr id off)) v.toV=(iX v).toV :=by
 unfold iX;split
 ·grind [DV.toV,DC.toC,R7]
 ·rename_i n_;unfold R7;split
  ·rename_i hv;exfalso;cases v with
   | c x=>
     cases x with
     | c y=>
       simp only [DV.toV,DC.toC,V.c.injEq]at hv;grind
     | k kd x=>cases kd<;>simp [DV.toV,DC.toC,AW]at hv
     | clo b f cs=>cases b<;>simp [DV.toV,DC.toC]at hv
     | _=>simp [DV.toV,DC.toC]at hv
   | _=>simp [DV.toV]at hv
  ·rfl
theorem ed {v:V} {id:Ad} {off:Nat} {e:Ar} (he:st.toSt.look id=some e) (hr:e.row=none):R7 st.toSt (.c (.ptr id off)) v=v:=by grind [R7]
theorem Yf {E:Nat} {x x':T.den E} {off:Nat} {cs:List (DC T)} (h:vM E x off cs=some x'):off+cs.length<=T.sz E/\(T.enc E x).take off++(Ap cs++(T.enc E x).drop (off+(Ap cs).length))=T.enc E x':=by
 unfold vM at h;split at h
 ·rename_i hb;refine⟨by simp_all,?_⟩;rw [<-(FA h).2 rfl,BY,BY,Gx,Eb,Eo,AC]
 ·cases h
theorem iZ {l:List C} {a b c:List C} (h:a++(b++c)=l) (hl:Al l=true):Al b=true:=by subst h;simp_all [Bl]
theorem od (hw:Ay H st) {t:TypeId} {d:Option Nat} {p v:DV T} (hv:v.ok H st.nx):
 Yl (iY P t d st p v) (fun an=>(∃ H',Nx H st H' an)/\(ER P st.toSt t p.toV (R7 st.toSt p.toV v.toV)).1/\(ER P st.toSt t p.toV (R7 st.toSt p.toV v.toV)).2.put d .undef =an.toSt/\an.pre=st.pre):=by
 unfold iY;split
 ·exact Yl.no
 ·rename_i ag n ht;split
  ·rename_i id off;split
   ·rename_i ds cs hb hc;refine Yl.A_ fun hg=>Yl.ret ?_;simp only [and_eq_true,beq_eq,ble_eq]at hg;obtain⟨hl,_,e,h1,h2,h3⟩:=EY hb;obtain⟨c1,c2⟩:=DV.aa7 hc;have hds:=Oc hw hb;have hok:(DX.box (ds.take off++(cs++ds.drop (off+n)))).ok :=Cq (PV hds _) (Cq (c2 hv) (PW hds _));obtain⟨H1,hN⟩:=Ac.aab hw id hok;refine⟨Ac.r_ hN _ (by simp only [DV.ok]),?_⟩;simp only [DV.toV,DC.toC];rw [ed hl rfl];simp only [ER,c1,ht,hl];refine⟨(by grind [AC]),?_,by rw [AH];rfl⟩;rw [Ac.d_,Ac.ab4 hw h1 h2 (cs:=(Ap ds).take off++Ap cs++(Ap ds).drop (off+(Ap cs).length)) (q:=Al (Ap cs))]
    ·simp only [DV.toV]
    ·rw [DE.toE_box h3];simp only [DE.toE,Ar.mk.injEq,Bool.false_and,and_true,true_and];grind [BY,Gx,Eb,AC]
   ·exact Yl.no
  ·rename_i id N i off;split
   ·rename_i E l cs hr hc;refine Yl.A_ fun hg=>Yl.opt fun x hx=>?_;simp only [and_eq_true,beq_eq]at hg;obtain⟨hN,hcs⟩:=hg;subst hN;split
    ·rename_i x' hp;obtain⟨p1,p2⟩:=Yf hp;obtain⟨hl,_,e,h1,h2,h3⟩:=Bg hr;obtain⟨c1,c2⟩:=DV.aa7 hc;obtain⟨s1,s2⟩:=qA (l:=l) (l':=l.set i.toNat x') (i:=i) (x:=x) (x':=x') (e:=T.enc E) (N:=T.sz E) (o:=off) (base:=0) (cs:=Ap cs) (pre:=[]) (post:=[]) (off:=i.toNat*T.sz E+off) (c0:=l.flatMap (T.enc E)) (c1:=(l.set i.toNat x').flatMap (T.enc E)) (by simp) rfl (by simp) rfl hx (fun y=>AG E y) (by omega) (by rw [AC];exact p1) p2;obtain⟨H1,hN⟩:=Ac.aab hw id (x:= .row E (l.set i.toNat x')) trivial;refine Yl.ret ⟨Ac.r_ hN _ (by simp only [DV.ok]),?_⟩;simp only [DV.toV,DC.toC];rw [ec hl rfl];simp only [ER,c1,ht,hl];refine⟨(by grind [AC]),?_,by rw [AH];rfl⟩;rw [s2,Ac.d_,Ac.ab4 hw h1 h2 (cs:=(l.set i.toNat x').flatMap (T.enc E)) (q:=Al (Ap cs))]
     ·simp only [DV.toV]
     grind [iZ,Uf,DE.toE]
    ·exact Yl.no
   ·exact Yl.no
  ·rename_i id base m E i off;split
   ·rename_i ds cs hb hc;split
    ·rename_i l hdr;refine Yl.A_ fun hg=>Yl.opt fun x hx=>?_;simp only [and_eq_true,beq_eq,ble_eq]at hg;split
     ·rename_i x' hp;obtain⟨p1,p2⟩:=Yf hp;obtain⟨hl,_,e,h1,h2,h3⟩:=EY hb;obtain⟨c1,c2⟩:=DV.aa7 hc;obtain⟨hlen,r,hr⟩:=De hdr;rw [Eb]at hr;have hfl:(l.flatMap (T.enc E)).length =m*T.sz E:=by grind [DI,AG]
      have aq6:r=(Ap ds).drop (base+m*T.sz E):=by grind [List.drop_drop,List.drop_left]
      have hs:Ro i.toNat x' 0 l=l.set i.toNat x':=by simp_all [d9]
      have hle:base<=(Ap ds).length :=by rw [AC];omega
      obtain⟨s1,s2⟩:=qA (l:=l) (l':=l.set i.toNat x') (i:=i) (x:=x) (x':=x') (e:=T.enc E) (N:=T.sz E) (o:=off) (base:=base) (cs:=Ap cs) (pre:=(Ap ds).take base) (post:=r) (off:=base+i.toNat*T.sz E+off) (c0:=Ap ds) (c1:=(Ap ds).take base++((l.set i.toNat x').flatMap (T.enc E)++r))
       (by grind [List.take_append_drop]) (by grind) rfl rfl hx (fun y=>AG E y) (by omega) (by rw [AC];exact p1) p2
      have hds:=Oc hw hb;have hok:(DX.box (ds.take base++(K7 E (Ro i.toNat x' 0 l)++ds.drop (base+m*T.sz E)))).ok :=Cq (PV hds _) (Cq (Ye _ _) (PW hds _));obtain⟨H1,hN⟩:=Ac.aab hw id hok;refine Yl.ret ⟨Ac.r_ hN _ (by simp only [DV.ok]),?_⟩;simp only [DV.toV,DC.toC];rw [ed hl rfl];simp only [ER,c1,ht,hl];refine⟨(by grind [AC]),?_,by rw [AH];rfl⟩;rw [s2,Ac.d_,Ac.ab4 hw h1 h2 (cs:=(Ap ds).take base++((l.set i.toNat x').flatMap (T.enc E)++r)) (q:=Al (Ap cs))]
      ·simp only [DV.toV]
      ·rw [DE.toE_box h3];simp only [DE.toE,Ar.mk.injEq,Bool.false_and,and_true,true_and];grind [BY,Gx,Eb,Rp]
     ·exact Yl.no
    ·exact Yl.no
   ·exact Yl.no
  ·exact Yl.no
end
end Go.PL
namespace Go.PL
open Go Go.RowKit
variable {T:AX}
section
variable {H:Aq T} {P:Program} {st:Ac T}
theorem E3 (hw:Ay H st) {x:Operand} {v:DV T} (h:st.arg [] x=some v):v.ok H st.nx/\(st.toSt.arg true x).1/\(st.toSt.arg true x).2=v.toV:=
 Ac.abW (key:=[]) hw (fun _ hl=>by cases hl) h rfl
theorem FF {t:TypeId} {cs:List (DC T)} (h:Nn P t=some cs):MG P t=some (Ap cs)/\Bx cs:=by grind [Nn,MG,K1]
theorem Oi {α:Type} (f:α->List (DC T)): ∀ l:List α,Ap (l.flatMap f)=l.flatMap (fun x=>Ap (f x))
 | []=>by simp [Ap]
 | a::l=>by rw [flatMap_cons,BY,Oi f l,flatMap_cons]
theorem Np (z:List (DC T)) (hz:0<z.length) (n:Nat):Ap ((List.replicate n z).flatMap id)=BB (Ap z) n:=by rw [Oi,XZ (fun x:List (DC T)=>Ap x) z rfl (by rw [AC];exact hz)];rfl
theorem UB (c:DC T):(UA c).toC =EJ c.toC:=by
 unfold UA;split
 ·rfl
 ·rename_i n_;cases c with
  | c x=>
    cases x with
    | P_=>grind
    | _=>rfl
  | k kd x=>cases kd<;>rfl
  | clo b f cs=>cases b<;>simp [DC.toC,EJ]
  | _=>simp [DC.toC,EJ]
theorem i4 (v:DV T):(P2 v).toV =v.toV.acv:=by cases v<;>simp_all [P2,DV.toV,V.acv,UB,BT]
theorem UC (vs:List (Nat×DV T)):dQ (vs.map fun x=>(x.1,P2 x.2))=(dQ vs).map QV:=by simp_all [dQ,QV,i4]
theorem UD (hw:Ay H st) {d:Nat} {t:TypeId} {len:Nat} {ps:List (Nat×Operand)}:
 Yl (K8 P st d t len ps) (fun an=>(∃ H',Nx H st H' an)/\(AS P st.toSt d t len ps).1/\B0 (AS P st.toSt d t len ps).2 an.toSt/\an.pre=st.pre):=by
 unfold K8;split
 ·rename_i E n by' vs hs hp;split
  ·rename_i z hz;split
   ·rename_i cs hf;split
    ·rename_i l hl;refine Yl.A_ fun hg=>(FE hw (x:= .row E l) (by exact trivial) (fun _=>by simp only [DC.ok])).mono fun an h=>?_;simp only [and_eq_true,beq_eq,blt_eq,ble_eq]at hg;obtain⟨g1,g2,g3,g4,g5⟩:=hg;subst g1;obtain⟨h1,h2,h3⟩:=h;obtain⟨p1,p2,p3⟩:=Ec (key:=[]) hw (fun _ hl=>by cases hl) rfl hp;obtain⟨z1,z2⟩:=FF hz;obtain⟨f1,_⟩:=Hd hf;rw [Np z (by omega),UC]at f1;obtain⟨hlen,r,hr⟩:=De hl;have hrn:r=[]:=by have:=congrArg List.length hr;grind [AC,DI,AG,List.length_eq_zero_iff]
     subst hrn;rw [List.append_nil]at hr;refine⟨h1,?_⟩;change (st.toSt.parts true ps).1 at p2;change (st.toSt.parts true ps).2=dQ vs at p3;simp only [AS,hs,z1,p3,f1];refine⟨(by simp_all [AC]),?_,h3⟩;rw [hr,nZ];simp only [DE.toE,hlen,DC.toC]at h2;exact h2
    ·exact Yl.no
   ·exact Yl.no
  ·exact Yl.no
 ·exact Yl.no
theorem WT (hw:Ay H st) {d:Nat} {t:TypeId} {l c:Int} {k k':IntKind}:
 Yl (No P st d t l c) (fun an=>(∃ H',Nx H st H' an)/\(HQ P st.toSt d t (.c (.int k l)) (.c (.int k' c))).1/\B0 (HQ P st.toSt d t (.c (.int k l)) (.c (.int k' c))).2 an.toSt/\an.pre=st.pre):=by
 unfold No;split
 ·rename_i E n by' hs;split
  ·rename_i z hz;split
   ·rename_i x hx;refine Yl.A_ fun hg=>Yl.opt fun u hu=>(FE hw (x:= .row E (List.replicate l.toNat x)) (by exact trivial) (fun _=>by simp only [DC.ok])).mono fun an h=>?_;simp only [and_eq_true,beq_eq,blt_eq]at hg;obtain⟨g1,g2,g3⟩:=hg;subst g1;obtain⟨h1,h2,h3⟩:=h;obtain⟨z1,z2⟩:=FF hz;obtain⟨n1,n2,n3,n4⟩:=BK hu;refine⟨h1,?_⟩;simp only [HQ,hs,z1];refine⟨(by simp_all [AC]),?_,h3⟩;have hzx:=(FA hx).2 rfl;have:=XZ (T.enc E) x hzx (by rw [AC];omega) l.toNat
    rw [this];simp only [DE.toE,List.length_replicate,DC.toC]at h2;exact h2
   ·exact Yl.no
  ·exact Yl.no
 ·exact Yl.no
theorem oe {E:Nat} {x:DV T} {m:List (T.den E)} (h:zz st E x=some m):NX st.toSt (T.sz E) x.toV=some (m.length,m.flatMap (T.enc E),true):=by
 have hl: ∀ {E':Nat} {l:List (T.den E')} {m:List (T.den E)},Fz (T:=T) false (.w_ E) (.k (.w_ E') l)=some m->(C.sl l.length (l.flatMap (T.enc E'))=C.sl m.length (m.flatMap (T.enc E)))/\T.sz E'=T.sz E/\l.length=m.length:=by
  intro E' l m hc;unfold Fz at hc;simp only at hc;split at hc
  all_goals grind
 unfold zz at h;split at h
 ·rename_i y;split at h
  ·rename_i id ho;have:=Di ho;subst this;split at h
   ·rename_i E' l hr;obtain⟨a,b,c⟩:=hl h;injection a with a1 a2;simp only [DV.toV,DC.toC,NX,(Bg hr).1,b,if_true];rw [a1,a2]
   ·cases h
  ·have:=(BP h).2 rfl;simp only [AW]at this;simp only [DV.toV,this,NX];rw [if_pos (DI (fun y=>AG E y) m)]
 ·cases h
theorem i5 (hw:Ay H st) {d:Nat} {t:TypeId} {u x:DV T}:
 Yl (ZX P st d t u x) (fun an=>(∃ H',Nx H st H' an)/\(Em P st.toSt d t u.toV x.toV).1/\B0 (Em P st.toSt d t u.toV x.toV).2 an.toSt/\an.pre=st.pre):=by
 unfold ZX;split
 ·rename_i id E' n by' hs;split
  ·rename_i E l hr;split
   ·rename_i m hm;refine Yl.A_ fun hg=>Yl.opt fun r hra=>?_;simp only [and_eq_true,beq_eq,blt_eq]at hg;obtain⟨g1,g2,g3⟩:=hg;subst g1 g2;split
    ·rename_i s hn;obtain⟨⟨H',hN⟩,h2,h3⟩:=Ac.aaK hw (x:= .row E' r) trivial hn;refine Yl.ret ⟨Ac.r_ hN _ (by simp only [DV.ok,DC.ok]),?_⟩;have hb:=yf hra;have hx:=yg hra;simp only [DV.toV,DC.toC,Em,hs,(Bg hr).1,oe hm,true_and];refine⟨⟨g3,hb.1,hb.2⟩,?_,by rw [AH];exact h3⟩;rw [Ac.d_];simp only [DE.toE,hx,List.length_append,List.flatMap_append]at h2;simp only [DV.toV,DC.toC,Bool.and_self];exact h2.put _ _
    ·exact Yl.no
   ·exact Yl.no
  ·exact Yl.no
 ·exact Yl.no
theorem SG (hw:Ay H st) (o:Oper):Yl (oc P st o) (Ef H P st o):=by
 have A: ∀ {x:Operand} {v:DV T},st.arg [] x=some v->v.ok H st.nx/\(st.toSt.arg true x).1/\(st.toSt.arg true x).2=v.toV:=fun h=>E3 hw h;obtain⟨dst,op,ty,pos,aft,gd⟩:=o;unfold oc;simp only;split
 ·rename_i t x y;split
  ·rename_i p v hp hv;obtain⟨a1,a2,a3⟩:=A hp;obtain⟨b1,b2,b3⟩:=A hv;have e:(d8 y v).toV =ij y v.toV:=by unfold d8 ij;grind [DV.toV,DC.toC]
   have hok:(d8 y v).ok H st.nx:=by unfold d8;grind [DV.ok,DC.ok]
   refine(od hw hok).mono fun an h=>?_;obtain⟨h1,h2,h3,h4⟩:=h;refine⟨h1,?_,?_,h4⟩
   all_goals grind [PL.ef,B0.refl]
  ·exact Yl.no
 ·rename_i hns;split
  ·exact Yl.no
  ·rename_i d;split
   ·rename_i t;split
    ·rename_i cs hz;obtain⟨z1,z2⟩:=K3 hz;refine(FE hw (x:= .box cs) z2 (fun _=>by simp only [DC.ok])).mono fun an h=>?_;obtain⟨h1,h2,h3⟩:=h;refine⟨h1,?_,?_,h3⟩
     ·simp only [PL.ef,z1]
     ·simp only [PL.ef,z1];simp only [DE.toE,DC.toC]at h2;exact h2
    ·exact Yl.no
   ·rename_i t x;split
    ·rename_i v hv;split
     ·rename_i cs hc;obtain⟨b1,b2,b3⟩:=A hv;obtain⟨c1,c2⟩:=DV.aa7 hc;refine(FE hw (x:= .box cs) (c2 b1) (fun _=>by simp only [DC.ok])).mono fun an h=>?_;obtain⟨h1,h2,h3⟩:=h;refine⟨h1,?_,?_,h3⟩
      ·simp_all [PL.ef]
      ·simp only [PL.ef,b3,c1];simp only [DE.toE,DC.toC]at h2;exact h2
     ·exact Yl.no
    ·exact Yl.no
   ·split
    ·rename_i E n hs;refine Yl.A_ fun hg=>(FE hw (x:= .row E []) (by exact trivial) (fun _=>by simp only [DC.ok])).mono fun an h=>?_;have hg:=Nat.eq_of_beq_eq_true hg;subst hg;obtain⟨h1,h2,h3⟩:=h;refine⟨h1,?_,?_,h3⟩
     ·simp only [PL.ef,hs]
     ·simp only [PL.ef,hs];simp only [DE.toE,DC.toC,List.length_nil,List.flatMap_nil]at h2;exact h2
    ·exact Yl.no
   ·rename_i t len ps;refine(UD hw).mono fun an h=>?_;obtain⟨h1,h2,h3,h4⟩:=h;exact⟨h1,by simpa only [PL.ef] using h2,by simpa only [PL.ef] using h3,h4⟩
   ·rename_i t l c;split
    ·rename_i k l' k' c' hl hc;obtain⟨a1,a2,a3⟩:=A hl;obtain⟨b1,b2,b3⟩:=A hc;simp only [DV.toV,DC.toC,AW]at a3 b3;refine(WT hw (k:=k) (k':=k')).mono fun an h=>?_;obtain⟨h1,h2,h3,h4⟩:=h;refine⟨h1,?_,?_,h4⟩
     all_goals grind [PL.ef]
    ·exact Yl.no
   ·rename_i c;split
    ·rename_i u x t t' aaD aas agd;split
     ·rename_i a b ha hb;obtain⟨a1,a2,a3⟩:=A ha;obtain⟨b1,b2,b3⟩:=A hb;refine Yl.A_ fun hg=>(i5 hw).mono fun an h=>?_;have hg:=Nat.eq_of_beq_eq_true hg;obtain⟨h1,h2,h3,h4⟩:=h;refine⟨h1,?_,?_,h4⟩
      all_goals grind [PL.ef]
     ·exact Yl.no
    ·exact Yl.no
   ·exact Yl.no
end
end Go.PL
namespace Go.PL
open Go Go.RowKit
structure OE where
 dp:Bool
 E:TypeId
 n:Nat
 len:Nat
 cs:List C
def OE.ent (o:OE) (id:Ad):Ar:=⟨id,some (o.E,o.n,o.len),o.cs,true⟩
def Ce:List OE->List Ad->List Ar
 | o::os,i::is=>o.ent i::Ce os is
 | _,_=>[]
def HL:List OE->List Ad->Bool
 | [],[]=>true
 | o::os,i::is=>(DF i==o.dp&& !Cf i)&&HL os is
 | _,_=>false
inductive PC where
 | c (x:C)
 | o (j:Nat)
def PC.toC (ids:List Ad):PC->C
 | .c x=>x
 | .o j=> .l_ (ids.getD j [])
inductive PP where
 | c (x:PC)
 | a (cs:List PC)
def PP.toV (ids:List Ad):PP->V
 | .c x=> .c (x.toC ids)
 | .a cs=> .agg (cs.map (PC.toC ids))
def K9 (ids:List Ad):List PP->V
 | [p]=>p.toV ids
 | ps=> .tup (ps.map (PP.toV ids))
def PC.ok (m:Nat):PC->Bool
 | .c x=>x.pure
 | .o j=>Nat.blt j m
def PP.ok (m:Nat):PP->Bool
 | .c x=>x.ok m
 | .a cs=>cs.all (PC.ok m)
structure La (P:Program) (I:World->Prop) (f:FuncId) (args:List V) (outs:List OE) (ps:List PP):Prop where
 ent:ent P f=true
 pok:ps.all (PP.ok outs.length)=true
 run: ∀ (w:World) (vs:Array Value) (av:Nat->Prop),I w->(∀ b,av b->b<w.heap.size)->Ao w (im av) args vs.toList->
  Calls P f vs w (fun e w'=> ∃ v ids G',e= .returned v/\HL outs ids=true/\ids.Nodup/\Aa w' G' (K9 ids ps) v/\
   (∀ e∈Ce outs ids,AN w' G' e/\A8 w' G' e/\Al e.cs=true)/\(∀ i j b,G'.blk i=some b->G'.blk j=some b->i=j)/\
   (∀ i b,G'.blk i=some b->w.heap.size<=b/\b<w'.heap.size)/\(∀ b,G'.wr b↔av b\/ ∃ i,G'.blk i=some b)/\Below w.heap.size w w')
def reN (o i:Ad):Ad:=match i with
 | _::k::_=>Bi k o
 | _=>o
def Im:List Ad->List Ad->Ad->Option Ad
 | n::ns,o::os,i=>if i=n then some o else if C4 n i=true then some (reN o i)else Im ns os i
 | _,_,_=>none
def IK (ns:List Ad) (i:Ad):Bool:=ns.any fun n=>i==n||C4 n i
theorem zA (o n:Ad) (k:Nat):reN o (Bi k n)=Bi k o:=rfl
theorem og {ns os:List Ad} {i:Ad} (hl:ns.length=os.length) (h:IK ns i=false):Im ns os i=none:=by
 induction ns generalizing os with
 | nil=>rfl
 | cons n ns ih=>
   cases os<;>simp_all [IK,Im]
theorem eg {ns os:List Ad} {i a:Ad} (h:Im ns os i=some a): ∃ (j:Nat) (n o:Ad),ns[j]? =some n/\os[j]? =some o/\(i=n/\a=o\/ ∃ k,i=Bi k n/\a=Bi k o):=by
 induction ns generalizing os with
 | nil=>simp [Im]at h
 | cons n ns ih=>
   cases os with
   | nil=>simp [Im]at h
   | cons o os=>
     simp only [Im]at h;split at h
     ·rename_i he;injection h with h;exact⟨0,n,o,rfl,rfl, .inl ⟨he,h.symm⟩⟩
     ·split at h
      ·rename_i he;obtain⟨k,rfl⟩:=lC he;injection h with h;exact⟨0,n,o,rfl,rfl, .inr ⟨k,rfl,h.symm⟩⟩
      ·obtain⟨j,n',o',h1,h2,h3⟩:=ih h;exact⟨j+1,n',o',h1,h2,h3⟩
theorem vN {ns os:List Ad} {j:Nat} {n o:Ad} (hn:ns.Nodup) (hmk: ∀ n∈ns,Cf n=false) (h1:ns[j]? =some n) (h2:os[j]? =some o):Im ns os n=some o/\ ∀ k,Im ns os (Bi k n)=some (Bi k o):=by
 induction ns generalizing os j with
 | nil=>simp at h1
 | cons m ns ih=>
   cases os with
   | nil=>simp at h2
   | cons q os=>
     simp only [nodup_cons]at hn;cases j with
     | zero=>
       simp only [List.getElem?_cons_zero,injEq]at h1 h2;subst h1 h2;refine⟨by simp [Im],fun k=>?_⟩;simp only [Im];rw [if_neg (fun e=>by have:=hmk m (by simp);rw [<-e]at this;cases this),if_pos (by rw [FR];simp),zA]
     | succ j=>
       simp only [List.getElem?_cons_succ]at h1 h2;have hm:n∈ns:=(by grind);have n_:n ≠ m:=(by grind);obtain⟨a,b⟩:=ih hn.2 (fun x hx=>hmk x (by simp [hx])) h1 h2;have hmn:=hmk n (by simp [hm]);refine⟨?_,fun k=>?_⟩
       ·simp only [Im];rw [if_neg n_,if_neg (fun e=>by obtain⟨k,rfl⟩:=lC e;cases hmn)];exact a
       ·simp only [Im];rw [if_neg (fun e=>by have:=hmk m (by simp);rw [<-e]at this;cases this),if_neg (fun e=>by rw [FR]at e;exact n_ (by simpa using e))];exact b k
theorem zB {α:Type} {l:List α} (h:l.Nodup) {i j:Nat} {x:α} (hi:l[i]? =some x) (hj:l[j]? =some x):i=j:=by grind [List.pairwise_iff_getElem]
theorem rj {ns os:List Ad} {i j a:Ad} (hn:ns.Nodup) (ho:os.Nodup) (hmo: ∀ o∈os,Cf o=false) (h1:Im ns os i=some a) (h2:Im ns os j=some a):i=j:=by
 obtain⟨p,n,o,a1,a2,a3⟩:=eg h1;obtain⟨q,n',o',b1,b2,b3⟩:=eg h2;have key:o=o'->p=q:=(by grind [zB]);have m1:=hmo o (mem_of_getElem? a2);have m2:=hmo o' (mem_of_getElem? b2);rcases a3 with ⟨rfl,rfl⟩ | ⟨k,rfl,rfl⟩<;>rcases b3 with ⟨rfl,e⟩ | ⟨k',rfl,e⟩
 ·grind
 ·rw [e]at m1;cases m1
 ·rw [<-e]at m2;cases m2
 grind [NR]
theorem GA: ∀ {outs:List OE} {ids:List Ad},HL outs ids=true->ids.length=outs.length/\(∀ i∈ids,Cf i=false)/\ ∀ (j:Nat) (o:OE) (i:Ad),outs[j]? =some o->ids[j]? =some i->DF i=o.dp
 | [],[],_=>(by grind)
 | [],_::_,h=>by simp [HL]at h
 | _::_,[],h=>by simp [HL]at h
 | o::os,i::is,h=>by simp only [HL,and_eq_true,beq_iff_eq,not_eq_true']at h;obtain⟨a,b,c⟩:=GA h.2;grind
theorem P3: ∀ {outs:List OE} {ids:List Ad} {e:Ar},e∈Ce outs ids-> ∃ (j:Nat) (o:OE) (i:Ad),outs[j]? =some o/\ids[j]? =some i/\e=o.ent i
 | [],_,_,h=>by simp [Ce]at h
 | _::_,[],_,h=>by simp [Ce]at h
 | o::os,i::is,e,h=>by
   simp only [Ce,mem_cons]at h;rcases h with rfl | h
   ·exact⟨0,o,i,rfl,rfl,rfl⟩
   ·obtain⟨j,o',i',a,b,c⟩:=P3 h;exact⟨j+1,o',i',by grind,by grind,c⟩
theorem UE: ∀ {outs:List OE} {ids:List Ad} {j:Nat} {o:OE} {i:Ad},outs[j]? =some o->ids[j]? =some i->o.ent i∈Ce outs ids
 | [],_,_,_,_,h,_=>by simp at h
 | _::_,[],_,_,_,_,h=>by simp at h
 | o::os,i::is,0,o',i',h1,h2=>by grind [Ce]
 | o::os,i::is,j+1,o',i',h1,h2=>by simp only [Ce,mem_cons];exact .inr (UE (by simpa using h1) (by simpa using h2))
theorem Yg: ∀ {outs:List OE} {ids:List Ad},ids.length=outs.length->(Ce outs ids).map (·.id)=ids
 | [],[],_=>rfl
 | [],_::_,h=>by simp at h
 | _::_,[],h=>by simp at h
 | o::os,i::is,h=>by simp only [Ce,map_cons,OE.ent,Yg (outs:=os) (ids:=is) (by simpa using h)]
theorem BE.sub {G G':Ax} {w:World} (h: ∀ b,b<w.heap.size->G'.wr b->G.wr b):BE G G' w w:=⟨le_refl _,fun _ _ _=>rfl,h,fun _ _ _ _=>BU.same rfl⟩
theorem yw {w:World} {G G':Ax} {ids ns:List Ad} {m:Nat} (hk:BE G G' w w) (hl:ids.length=m) (ho: ∀ (j:Nat) (i n:Ad),ids[j]? =some i->ns[j]? =some n->G'.own n=G.own i) (hl2:ns.length=m) {p:PC} (hp:p.ok m=true) {v:Value} (h:Ab w G (p.toC ids) v):Ab w G' (p.toC ns) v:=by
 cases p with
 | c x=>exact Ab.mono hk x v (fun i hi=>absurd (show x.g_ i=true from hi) (by rw [Fo i x hp];simp)) h
 | o j=>
   grind [PC.ok,blt_eq,PC.toC,Ab]
theorem yx {w:World} {G G':Ax} {ids ns:List Ad} {m:Nat} (hk:BE G G' w w) (hl:ids.length=m) (ho: ∀ (j:Nat) (i n:Ad),ids[j]? =some i->ns[j]? =some n->G'.own n=G.own i) (hl2:ns.length=m): ∀ {ps:List PC} {vs:List Value},ps.all (PC.ok m)=true->Ae w G (ps.map (PC.toC ids)) vs->Ae w G' (ps.map (PC.toC ns)) vs
 | [],[],_,_=>by simp [Ae]
 | [],_::_,_,h=>by simp [Ae]at h
 | _::_,[],_,h=>by simp [Ae]at h
 | p::ps,v::vs,hp,h=>by simp only [all_cons,and_eq_true]at hp;simp only [map_cons,Ae]at h ⊢;exact⟨yw hk hl ho hl2 hp.1 h.1,yx hk hl ho hl2 hp.2 h.2⟩
theorem yz {w:World} {G G':Ax} {ids ns:List Ad} {m:Nat} (hk:BE G G' w w) (hl:ids.length=m) (ho: ∀ (j:Nat) (i n:Ad),ids[j]? =some i->ns[j]? =some n->G'.own n=G.own i) (hl2:ns.length=m) {p:PP} (hp:p.ok m=true) {v:Value} (h:Aa w G (p.toV ids) v):Aa w G' (p.toV ns) v:=by
 cases p with
 | c x=>simp only [PP.toV,Aa]at h ⊢;exact yw hk hl ho hl2 hp h
 | a cs=>
   simp only [PP.toV,Aa]at h ⊢;obtain⟨arr,e,h⟩:=h;exact⟨arr,e,yx hk hl ho hl2 hp h⟩
theorem i6 {w:World} {G G':Ax} {ids ns:List Ad} {m:Nat} (hk:BE G G' w w) (hl:ids.length=m) (ho: ∀ (j:Nat) (i n:Ad),ids[j]? =some i->ns[j]? =some n->G'.own n=G.own i) (hl2:ns.length=m): ∀ {ps:List PP} {vs:List Value},ps.all (PP.ok m)=true->Ao w G (ps.map (PP.toV ids)) vs->Ao w G' (ps.map (PP.toV ns)) vs
 | [],vs,_,h=>by simpa [Ao] using h
 | p::ps,vs,hp,h=>by simp only [all_cons,and_eq_true]at hp;simp only [map_cons,Ao]at h ⊢;obtain⟨v,r,e,h1,h2⟩:=h;exact⟨v,r,e,yz hk hl ho hl2 hp.1 h1,i6 hk hl ho hl2 hp.2 h2⟩
theorem zC {w:World} {G G':Ax} {ids ns:List Ad} {m:Nat} (hk:BE G G' w w) (hl:ids.length=m) (ho: ∀ (j:Nat) (i n:Ad),ids[j]? =some i->ns[j]? =some n->G'.own n=G.own i) (hl2:ns.length=m) {ps:List PP} (hp:ps.all (PP.ok m)=true) {v:Value} (h:Aa w G (K9 ids ps) v):Aa w G' (K9 ns ps) v:=by
 match ps,hp,h with
 | [p],hp,h=>
   simp only [all_cons,all_nil,Bool.and_true]at hp;exact yz hk hl ho hl2 hp h
 | [],hp,h=>
   grind [K9,Aa,i6]
 | p::q::ps,hp,h=>
   grind [K9,Aa,i6]
theorem ZY {w:World} {G G':Ax} (hk:BE G G' w w) {i n:Ad} {r:TypeId×Nat×Nat} {cs:List C} (hp:Al cs=true) (hb:G'.blk n=G.blk i) (ho:G'.own n=G.own i) (h:AN w G ⟨i,some r,cs,true⟩):AN w G' ⟨n,some r,cs,true⟩:=by
 obtain⟨E,m,len⟩:=r;unfold AN at *;obtain⟨hl,v,h1,h2⟩:=h;refine⟨hl,v,by grind,?_⟩;rcases h2 with ⟨p,e1,e2,e3⟩ | ⟨b,cap,cur,e1,e2,e3,e4,e5,e6,e7⟩
 ·grind
 ·exact .inr ⟨b,cap,cur,e1,by grind,e3,e4,e5,e6,Ai.mono hk _ _ _ (fun i hi=>absurd (show Bm i cs=true from hi) (by rw [AL i cs hp];simp)) (fun _=>rfl) e7⟩
end Go.PL
namespace Go.PL
open Go Go.RowKit
section
variable {F:Fr} {st:St} {a:Act} {w w':World} {G Gc:Ax}
def Hg (F:Fr) (G Gc:Ax) (ns ids:List Ad):Ax where
 blk:=fun i=>match Im ns ids i with | some a=>Gc.blk a | none=>G.blk i
 own:=fun i=>match Im ns ids i with | some a=>Gc.own a | none=>G.own i
 wr:=fun x=>F.av x\/ ∃ i,(match Im ns ids i with | some a=>Gc.blk a | none=>G.blk i)=some x
theorem R.ajQ (h:R F st a w G) (hb:Below w.heap.size w w') {outs:List OE} {ids ns:List Ad} {av:Nat->Prop} (hav: ∀ b,G.wr b->av b) (ag1:HL outs ids=true) (hnd:ids.Nodup) (hns:HL outs ns=true) (hnn:ns.Nodup)
 (hE: ∀ e∈Ce outs ids,AN w' Gc e/\A8 w' Gc e/\Al e.cs=true) (ajs: ∀ i j b,Gc.blk i=some b->Gc.blk j=some b->i=j) (hfr: ∀ i b,Gc.blk i=some b->w.heap.size<=b/\b<w'.heap.size) (hwr: ∀ b,Gc.wr b↔av b\/ ∃ i,Gc.blk i=some b):
 R F (st.a_ (IK ns) (Ce outs ns++(st.so.filter fun e=> !(IK ns e.id)).map (Ar.a_ (IK ns)))) a w' (Hg F G Gc ns ids)/\BE Gc (Hg F G Gc ns ids) w' w'/\
   ∀ (j:Nat) (i n:Ad),ids[j]? =some i->ns[j]? =some n->(Hg F G Gc ns ids).own n=Gc.own i:=by
 obtain⟨l1,m1,d1⟩:=GA ag1;obtain⟨l2,m2,d2⟩:=GA hns;have ara: ∀ i,IK ns i=false->Im ns ids i=none:=fun i hi=>og (by omega) hi;have hin: ∀ (j:Nat) (i n:Ad),ids[j]? =some i->ns[j]? =some n->Im ns ids n=some i/\ ∀ k,Im ns ids (Bi k n)=some (Bi k i):=(by grind [vN]);have sub: ∀ b,(Hg F G Gc ns ids).wr b->Gc.wr b:=fun b hw=>by
  rw [hwr];simp only [Hg]at hw;rcases hw with q | ⟨i,q⟩
  ·exact .inl (hav b ((h.wr b).2 (.inl q)))
  ·split at q
   ·grind
   ·exact .inl (hav b ((h.wr b).2 (.inr ⟨i,q⟩)))
 have hk:BE Gc (Hg F G Gc ns ids) w' w':=BE.sub (by grind);have t:aaL F (IK ns) (fun _=>false) G (Hg F G Gc ns ids) w w':={
  agree:=(by simp_all [Hg])
  same:=fun i b _ hib=>hb.block b (h.lt i b hib)
  keeps:=⟨hb.size,fun b hb' _=>hb.block b hb',fun b hb' hw=>by simp only [Hg]at hw;rw [h.wr];grind,fun i b q1 _=>BU.same (hb.block b (h.lt i b q1))⟩
  outer:=Co hb
  ext:=fun b hb' _=>hb.block b (Nat.lt_of_lt_of_le hb' h.hsize)
  wr:=fun b=>Iff.rfl
  inj:=fun i j b q1 q2=>by
   simp only [Hg]at q1 q2;split at q1<;>split at q2
   ·grind [rj]
   ·have a1:=hfr _ _ q1;have a2:=h.lt _ _ q2;omega
   ·have a1:=hfr _ _ q2;have a2:=h.lt _ _ q1;omega
   ·exact h.inj _ _ _ q1 q2
  lt:=fun i b q=>by
   simp only [Hg]at q;split at q
   ·grind
   ·exact Nat.lt_of_lt_of_le (h.lt _ _ q) hb.size
  new:=fun i b q=>by
   simp only [Hg]at q;split at q
   ·exact .inl (Nat.le_trans h.hsize (hfr _ _ q).1)
   ·exact h.new _ _ q}
 have z_: ∀ (j:Nat) (i n:Ad),ids[j]? =some i->ns[j]? =some n->(Hg F G Gc ns ids).own n=Gc.own i:=(by grind [Hg]);have aad: ∀ (j:Nat) (i n:Ad),ids[j]? =some i->ns[j]? =some n->(Hg F G Gc ns ids).blk n=Gc.blk i:=(by grind [Hg]);have new: ∀ e∈Ce outs ns,AN w' (Hg F G Gc ns ids) e/\A8 w' (Hg F G Gc ns ids) e/\Al e.cs=true:=by
  intro e he;obtain⟨j,o,n,q1,q2,rfl⟩:=P3 he;have hj:j<ids.length:=by grind
  obtain⟨i,q3⟩: ∃ i,ids[j]? =some i:=(by grind);obtain⟨e1,e2,e3⟩:=hE _ (UE q1 q3);have hb1:=aad j i n q3 q2;have ho1:=z_ j i n q3 q2;refine⟨ZY hk e3 hb1 ho1 e1,⟨m2 n (mem_of_getElem? q2),fun hd=>⟨rfl,rfl,?_⟩⟩,e3⟩;have hdi:DF i=true:=by rw [d1 j o i q1 q3, <-d2 j o n q1 q2];exact hd
  obtain⟨_,_,hI⟩:=e2.2 hdi;intro k E n' len cs hc;obtain⟨p1,p2,b,v,p3,p4,p5⟩:=hI k E n' len cs hc;have hm:=(hin j i n q3 q2).2 k;have hbm:(Hg F G Gc ns ids).blk (Bi k n)=Gc.blk (Bi k i):=by simp only [Hg,hm]
  have hom:(Hg F G Gc ns ids).own (Bi k n)=Gc.own (Bi k i):=by simp only [Hg,hm]
  exact⟨p1,ZY hk p1 hbm hom p2,b,v,hb1.trans p3,p4,hom.trans p5⟩
 have hold: ∀ e∈(st.so.filter fun e=> !(IK ns e.id)).map (Ar.a_ (IK ns)), ∃ d∈st.so,IK ns d.id=false/\e=d.a_ (IK ns):=by grind
 have hdk: ∀ d∈st.so,IK ns d.id=false->DF d.id=true-> ∀ k,IK ns (Bi k d.id)=false/\(fun _=>false:Ad->Bool) (Bi k d.id)=false:=by
  intro d hd hp hD k;refine⟨?_,rfl⟩;cases hq:IK ns (Bi k d.id)with
  | false=>rfl
  | true=>
    obtain⟨n,hn,hq⟩:=any_eq_true.1 hq;simp only [or_eq_true,beq_iff_eq]at hq;rcases hq with hq | hq
    ·have:=m2 n hn;rw [<-hq]at this;cases this
    simp_all [FR,IK]
 refine⟨t.acj h _ (fun e he=>?_) (fun e he=>?_) (fun e he=>?_) ?_,hk,z_⟩
 ·rcases mem_append.1 he with he | he
  ·grind
  ·obtain⟨d,h1,h2,rfl⟩:=hold e he;exact t.ent h h1 h2 rfl
 ·rcases mem_append.1 he with he | he
  ·grind
  ·obtain⟨d,h1,h2,rfl⟩:=hold e he;exact t.deep h h1 h2 rfl (hdk d h1 h2)
 ·rcases mem_append.1 he with he | he
  ·grind
  ·obtain⟨d,h1,h2,rfl⟩:=hold e he;exact M9 (h.k_ d h1)
 ·rw [map_append,Yg l2,map_map];have e1:(fun e:Ar=>e.id) ∘ Ar.a_ (IK ns)=fun e=>e.id:=by grind [Ar.j_]
  rw [e1];refine List.nodup_append.2 ⟨hnn,List.Sublist.nodup (by grind [List.filter_sublist]) h.nodup,fun x hx y hy=>?_⟩;obtain⟨d,hd,rfl⟩:=mem_map.1 hy;grind [IK]
theorem El.amt {P:Program} {I:World->Prop} {o:Oper} {K:St->Prop} {f:FuncId} {xs:List Operand} {outs:List OE} {ps:List PP} (d:Nat)
 (hk:BC o.op= .call f xs) (hd:o.dst=some d) (ha:(st.args true xs).1) (hp:BA ((st.args true xs).2.map (Bc st))=true) (als:Cc (st.args true xs).2=[])
 (hc:La P I f ((st.args true xs).2.map (Bc st)) outs ps) {ns:List Ad} (hns:HL outs ns=true) (hnn:ns.Nodup)
 (hK:K ((st.a_ (IK ns) (Ce outs ns++(st.so.filter fun e=> !(IK ns e.id)).map (Ar.a_ (IK ns)))).put (some d) (K9 ns ps))):El P I o st K:=by
 intro F a w G Q0 hI hR;have hI':I w:=hI▸hR.inv w hR.hsize hR.ext;have hr:=N1 (a:=a) hk hc.ent w;unfold Oper.wp Oper.upon;rw [hr];have hx:Ao w G (st.args true xs).2 (xs.map a.eval):=hR.args rfl ha;have h3:=ES hR (av:=fun b=>G.wr b) (fun _ _ q=>q) (by grind) hp hx;refine(hc.run w (xs.map a.eval).toArray (fun b=>G.wr b) hI' (fun b hb=>hR.aei hb) (by grind)).mono fun e w' ⟨v,ids,Gc,he,ag1,hnd,hv,hE,ajs,hfr,hwr,hb⟩=>?_;subst he;obtain⟨g1,g2,g3⟩:=hR.ajQ hb (fun _ q=>q) ag1 hnd hns hnn hE ajs hfr hwr;refine⟨_,Hg F G Gc ns ids,hK,?_⟩;rw [hd];exact R.put (d:=some d) g1 (zC g2 (GA ag1).1 g3 (GA hns).1 hc.pok hv)
def Acs (P:Program) (st:St) (rs:List ResultVar) (outs:List OE) (ps:List PP):Prop:=
 ∃ ids,HL outs ids=true/\ids.Nodup/\(BO P st rs).1/\(∀ (w:World) (G:Ax) (v:Value),Aa w G (BO P st rs).2 v->Aa w G (K9 ids ps) v)/\ ∀ e∈Ce outs ids,e∈st.so
theorem La.of {P:Program} {I:World->Prop} (IN:GX I) {f:FuncId} {fn:Func} {c:Code} {args:List V} {outs:List OE} {ps:List PP} (aao:PL.ent P f=true) (hf:P.funcs[f]? =some fn) (hb:fn.body=some c) (aoc:ps.all (PP.ok outs.length)=true)
 (h: ∀ F:Fr,F.I=I->Ak P F c (St.start args fn.ntmps) (fun e an=>(e= .normal \/e= .ret)/\Acs P an fn.results.toList outs ps)):La P I f args outs ps:=by
 refine⟨aao,aoc,fun w vs av hI hav aas=>calls_of_wp hf hb ?_⟩;have hR:=R.start IN hI hav aas fn.ntmps;refine Code.wp_mono (fun e a' w' ⟨an,G',⟨he,q⟩,hR'⟩=>?_) (h ⟨w,av,fun _=>False,I,[]⟩ rfl _ _ _ hR);obtain⟨ids,q1,q2,q3,q4,q5⟩:=q;obtain⟨v,r1,r2⟩:=Js hR' (fn:=fn) q3;have fin:a'.defers=[]/\ ∃ v,(results fn a'.tmps).run P w'= .ok v w'/\(fun(e:Ending) w''=> ∃ v ids G',e= .returned v/\HL outs ids=true/\ids.Nodup/\Aa w'' G' (K9 ids ps) v/\
  (∀ e∈Ce outs ids,AN w'' G' e/\A8 w'' G' e/\Al e.cs=true)/\(∀ i j b,G'.blk i=some b->G'.blk j=some b->i=j)/\
  (∀ i b,G'.blk i=some b->w.heap.size<=b/\b<w''.heap.size)/\(∀ b,G'.wr b↔av b\/ ∃ i,G'.blk i=some b)/\Below w.heap.size w w'') (.returned v) w':=by
  refine⟨hR'.dfr,v,r1,v,ids,G',rfl,q1,q2,q4 _ _ _ r2,fun e X_=>⟨hR'.store e (q5 e X_),hR'.deep e (q5 e X_),?_⟩,hR'.inj,fun i b hib=>⟨?_,hR'.lt i b hib⟩,hR'.wr,hR'.below (fun _ hx=>hx)⟩
  ·refine hR'.k_ e (q5 e X_) ?_;obtain⟨j,o,i,_,_,rfl⟩:=P3 X_;rfl
  ·rcases hR'.new i b hib with q | q
   all_goals grind
 rcases he with rfl | rfl<;>exact fin
end
end Go.PL
set_option linter.all false
namespace Go.PL
open Go Go.RowKit
def OE.frz (o:OE):List C:=match o.dp with
 | true=>o.cs.map My
 | false=>o.cs
def PC.frz (outs:List OE):PC->C
 | .c x=>x
 | .o j=>match outs[j]? with
   | some q=> .sl q.len q.frz
   | none=> .any
def PP.frz (outs:List OE):PP->V
 | .c x=> .c (x.frz outs)
 | .a cs=> .agg (cs.map (PC.frz outs))
def oh (outs:List OE):List PP->V
 | [p]=>p.frz outs
 | ps=> .tup (ps.map (PP.frz outs))
section
variable {w:World} {G:Ax} {av:Nat->Prop}
theorem Yh: ∀ {cs:List C} {b o:Nat},Ai w G cs b o-> ∀ k c,cs[k]? =some c-> ∃ v,w.cell? ⟨b,o+k,none⟩=some v/\Ab w G c v
 | [],_,_,_,k,c,h=>by simp at h
 | d::cs,b,o,hr,k,c,h=>by
   simp only [Ai]at hr;cases k with
   | zero=>simp only [List.getElem?_cons_zero,injEq]at h;subst h;simpa using hr.1
   | succ k=>
     have:=Yh hr.2 k c (by simpa using h);rw [show o+(k+1)=o+1+k by omega];exact this
theorem UF (acS: ∀ b,b<w.heap.size->av b->G.wr b) (hb: ∀ i b,G.blk i=some b-> ¬av b) (Tw: ∀ i b,G.blk i=some b->b<w.heap.size) {i:Ad} {E:TypeId} {n len:Nat} {cs ds:List C} {v:Value} (hE:AN w G ⟨i,some (E,n,len),cs,true⟩) (hv:G.own i=some v)
 (hd:Al ds=true) (hl:ds.length=cs.length) (m_: ∀ b,G.blk i=some b->Ai w G cs b 0->Ai w (im av) ds b 0):Ab w (im av) (.sl len ds) v:=by
 unfold AN at hE;obtain⟨h0,v',h1,h2⟩:=hE;rw [hv]at h1;injection h1 with h1;subst h1;simp only [Ab];refine⟨hd,?_⟩;rcases h2 with ⟨p,rfl,rfl,_⟩ | ⟨b,cap,cur,rfl,e2,e3,e4,e5,e6,e7⟩
 ·grind
 ·refine⟨_,cap,rfl,e4,e5,(by grind [List.length_eq_zero_iff]), .inr ⟨b,0,rfl,hb i b e2,Tw i b e2,m_ b e2 e7⟩⟩
theorem Acu (acS: ∀ b,b<w.heap.size->av b->G.wr b) (hb: ∀ i b,G.blk i=some b-> ¬av b) (Tw: ∀ i b,G.blk i=some b->b<w.heap.size) {o:OE} {i:Ad} {v:Value} (hE:AN w G (o.ent i)) (hD:A8 w G (o.ent i)) (hdp:DF i=o.dp) (hp:Al o.cs=true) (hv:G.own i=some v):Ab w (im av) (.sl o.len o.frz) v:=by
 have hk:BE G (im av) w w:=BE.sub acS;have mono: ∀ c u,c.pure=true->Ab w G c u->Ab w (im av) c u:=fun c u hc h=>Ab.mono hk c u (fun i hi=>absurd (show c.g_ i=true from hi) (by rw [Fo i c hc];simp)) h;unfold OE.frz;cases hq:o.dp with
 | false=>
   refine UF acS hb Tw hE hv hp rfl fun b _ hr=>?_;exact Ai.mono hk _ _ _ (fun i hi=>absurd (show Bm i o.cs=true from hi) (by rw [AL i o.cs hp];simp)) (fun _=>rfl) hr
 | true=>
   obtain⟨_,_,hI⟩:=hD.2 (by show DF i=true;rw [hdp,hq]);have pf:Al (o.cs.map My)=true:=by rw [By,all_eq_true]at hp ⊢;intro c hc;obtain⟨d,hd,rfl⟩:=mem_map.1 hc;have:=hp d hd;cases d<;>first | exact this | rfl
   refine UF acS hb Tw hE hv pf (by simp) fun b hbi hr=>ve fun k c hc=>?_;obtain⟨u,u1,u2⟩:=Yh hr k c hc;refine⟨u,u1,?_⟩;by_cases aoF: ∃ E n len cs,c= .isl E n len cs
   ·obtain⟨E,n,len,cs,rfl⟩:=aoF;obtain⟨k1,k2,b',u',k3,k4,k5⟩:=hI k E n len cs hc;have k3:G.blk i=some b':=k3;rw [hbi]at k3;injection k3 with k3;subst k3;rw [zero_add]at u1;rw [u1]at k4;injection k4 with k4;subst k4;simp only [My];exact UF acS hb Tw k2 k5 k1 rfl fun b _ hr=>Ai.mono hk _ _ _ (fun i hi=>absurd (show Bm i cs=true from hi) (by rw [AL i cs k1];simp)) (fun _=>rfl) hr
   ·have e:My c=c:=by cases c<;>first | rfl | grind
    grind [By]
end
theorem La.flat {P:Program} {I:World->Prop} {f:FuncId} {args:List V} {outs:List OE} {ps:List PP} (h:La P I f args outs ps) (aea:(oh outs ps).pure =true):Cm P I f args (· =oh outs ps):=by
 refine⟨h.ent,fun w vs av hI hav hr=>(h.run w vs av hI hav hr).mono ?_⟩;rintro e w' ⟨v,ids,G,he,hns,hnd,hv,hE,ajs,hfr,hwr,hb⟩;refine⟨v,_,he,rfl,aea,?_,hb⟩;obtain⟨l1,m1,d1⟩:=GA hns;have acS: ∀ b,b<w'.heap.size->av b->G.wr b:=(by grind);have hbn: ∀ i b,G.blk i=some b-> ¬av b:=(by grind);have Tw: ∀ i b,G.blk i=some b->b<w'.heap.size:=(by grind);have hk:BE G (im av) w' w':=BE.sub acS;have pc: ∀ (p:PC) (u:Value),p.ok outs.length=true->Ab w' G (p.toC ids) u->Ab w' (im av) (p.frz outs) u:=by
  intro p u hp hu;cases p with
  | c x=>exact Ab.mono hk x u (fun i hi=>absurd (show x.g_ i=true from hi) (by rw [Fo i x hp];simp)) hu
  | o j=>
    simp only [PC.ok,blt_eq]at hp;simp only [PC.toC,Ab]at hu;have e1:outs[j]? =some outs[j]:=(by grind);have e2:ids[j]? =some (ids.getD j []):=by grind
    simp only [PC.frz,e1];obtain⟨q1,q2,q3⟩:=hE _ (UE e1 e2);exact Acu acS hbn Tw q1 q2 (d1 j _ _ e1 e2) q3 hu.1
 have pl: ∀ (cs:List PC) (us:List Value),cs.all (PC.ok outs.length)=true->Ae w' G (cs.map (PC.toC ids)) us->Ae w' (im av) (cs.map (PC.frz outs)) us:=by
  intro cs;induction cs with
  | nil=>intro us _ hu;cases us<;>simpa [Ae] using hu
  | cons c cs ih=>
    intro us hc hu;cases us<;>simp_all [Ae]
 have pp: ∀ (p:PP) (u:Value),p.ok outs.length=true->Aa w' G (p.toV ids) u->Aa w' (im av) (p.frz outs) u:=by
  intro p u hp hu;cases p with
  | c x=>simp only [PP.toV,PP.frz,Aa]at hu ⊢;exact pc x u hp hu
  | a cs=>
    simp only [PP.toV,PP.frz,Aa]at hu ⊢;obtain⟨arr,e,hu⟩:=hu;exact⟨arr,e,pl cs _ hp hu⟩
 have pps: ∀ (l:List PP) (us:List Value),l.all (PP.ok outs.length)=true->Ao w' G (l.map (PP.toV ids)) us->Ao w' (im av) (l.map (PP.frz outs)) us:=by
  intro l;induction l with
  | nil=>grind [Ao]
  | cons p l ih=>
    intro us hp hu;simp only [all_cons,and_eq_true]at hp;grind [Ao]
 have hok:=h.pok
 match ps,hok,hv with
 | [p],hok,hv=>
   simp only [all_cons,all_nil,Bool.and_true]at hok;exact pp p v hok hv
 | [],hok,hv=>
   grind [K9,oh,Aa]
 | p::q::l,hok,hv=>
   grind [K9,oh,Aa]
end Go.PL
set_option linter.all false
namespace Go.PL
open Go Go.RowKit
mutual
theorem Yi {p q:Ad->Bool} (h: ∀ i,q i=true->p i=true): ∀ c:C,c.c_ p=false->c.c_ q=false
 | .l_ i,k=>by grind [C.c_]
 | .ptr i _,k=>by grind [C.c_]
 | .rsl i _ _ _,k=>by grind [C.c_]
 | .bsl i _ _,k=>by grind [C.c_]
 | .bld i _,k=>by grind [C.c_]
 | .acA i,k=>by grind [C.c_]
 | .clo _ cs,k=>by simp only [C.c_]at k ⊢;exact D0 h cs k
 | .bmv _ cs,k=>by simp only [C.c_]at k ⊢;exact D0 h cs k
 | .int ..,_=>rfl
 | .bool _,_=>rfl
 | .str _,_=>rfl
 | .sl ..,_=>rfl
 | .aaq ..,_=>rfl
 | .aaJ,_=>rfl
 | .K_,_=>rfl
 | .P_,_=>rfl
 | .fn _,_=>rfl
 | .held,_=>rfl
 | .any,_=>rfl
 | .acE ..,_=>rfl
 | .mp _,_=>rfl
 | .isl ..,_=>rfl
theorem D0 {p q:Ad->Bool} (h: ∀ i,q i=true->p i=true): ∀ cs:List C,BX p cs=false->BX q cs=false
 | [],_=>rfl
 | c::cs,k=>by simp only [BX,or_eq_false_iff]at k ⊢;exact⟨Yi h c k.1,D0 h cs k.2⟩
end
mutual
theorem D1 {p q:Ad->Bool} (h: ∀ i,q i=true->p i=true): ∀ v:V,v.c_ p=false->v.c_ q=false
 | .c x,k=>by grind [V.c_,Yi]
 | .agg cs,k=>by grind [V.c_,D0]
 | .tup vs,k=>by simp only [V.c_]at k ⊢;exact Rq h vs k
 | .g _ v,k=>by simp only [V.c_]at k ⊢;exact D1 h v k
 | .undef,_=>by simp only [V.c_]
theorem Rq {p q:Ad->Bool} (h: ∀ i,q i=true->p i=true): ∀ vs:List V,KW p vs=false->KW q vs=false
 | [],_=>by simp only [KW]
 | v::vs,k=>by simp only [KW,or_eq_false_iff]at k ⊢;exact⟨D1 h v k.1,Rq h vs k.2⟩
end
structure AR where
 k:Nat
 r:Ad
 E:TypeId
 n:Nat
 len:Nat
 cs:List C
def AR.ent (x:AR):Ar:=⟨x.r,some (x.E,x.n,x.len),x.cs,true⟩
def FZ (l:List C) (rs:List AR):List C:=rs.foldl (fun l x=>l.set x.k (.isl x.E x.n x.len x.cs)) l
structure Yj (p:Ad->Bool) (id:Ad) (ns:List Ad) (new:Ar) (A B:St):Prop where
 len:B.tm.length=A.tm.length
 tm: ∀ i,B.tm.getD i .undef = .undef \/(B.tm.getD i .undef =A.tm.getD i .undef /\(A.tm.getD i .undef).c_ p=false)
 ag9:B.gh.length=A.gh.length
 gh: ∀ i,B.gh.getD i .undef = .undef \/(B.gh.getD i .undef =A.gh.getD i .undef /\(A.gh.getD i .undef).c_ p=false)
 so: ∀ x∈B.so,x=new\/x∈A.so/\x.id ≠ id/\x.id∉ns/\(x.pu=true\/BX p x.cs=false)
 nd:(B.so.map (·.id)).Nodup
 pre:B.pre=A.pre
section
variable {F:Fr} {a:Act} {w:World}
theorem R.adk {id:Ad} {b:Nat} {p:Ad->Bool}: ∀ (rs:List AR) {st:St} {G:Ax} {e:Ar},R F st a w G->st.u_ id=some e->G.blk id=some b->
 (∀ x∈rs,st.look x.r=some x.ent/\x.k<e.cs.length/\(∀ i,pD x.r id i=true->p i=true)/\ ∃ v,w.cell? ⟨b,x.k,none⟩=some v/\G.own x.r=some v)->(rs.map (·.r)).Nodup ->
 ∀ B:St,Yj p id (rs.map (·.r)) ⟨id,e.row,FZ e.cs rs,true⟩ st B-> ∃ G',R F B a w G'
 | [],st,G,e,h,hl,hb,_,_,B,hB=>by
   obtain⟨hm,hid,_,_,hpu,_⟩:=h.W_ hl;refine⟨G,h.less ⟨hB.len,fun i=>(hB.tm i).imp (fun q=>q) (fun q=>q.1),fun x hx=>?_,fun _=>hB.nd,⟨hB.ag9,fun i=>(hB.gh i).imp (fun q=>q) (fun q=>q.1)⟩,hB.pre⟩⟩;rcases hB.so x hx with rfl | ⟨q,_⟩
   ·have:(⟨id,e.row,FZ e.cs [],true⟩:Ar)=e:=by obtain⟨i,r,cs,pu⟩:=e;simp only at hid hpu;subst hid hpu;rfl
    grind
   ·exact q
 | x::rs,st,G,e,h,hl,hb,hx,hnd,B,hB=>by
   simp only [map_cons,nodup_cons]at hnd;obtain⟨x1,x2,x3,v,x4,x5⟩:=hx x (by simp);obtain⟨hm,hid,hd,hmk,hpu,_⟩:=h.W_ hl;obtain⟨hmr,acU⟩:=AZ x1;have afu:=DP x1;have aeP:Cf x.r=false:=by rw [<-acU];exact(h.deep _ hmr).1
   have aeN:x.r ≠ id:=(by grind);obtain⟨G1,g1,g2,g3,g4⟩:=h.af3 hl x1 rfl rfl hb x4 x5 x2;have adR: ∀ d∈st.so,d.id ≠ x.r->d.id ≠ id->(d.pu=true\/BX p d.cs=false)->d∈((st.so.filter (fun d=>d.id != x.r)).map (Ar.a_ (pD x.r id))).map (C_ id e.row (e.cs.set x.k (.isl x.E x.n x.len x.cs))):=by
    intro d Y_ q1 q2 q3;refine mem_map.2 ⟨d,mem_map.2 ⟨d,(by grind),?_⟩,C2 q2⟩;obtain⟨i,r,cs,pu⟩:=d;cases pu with
    | true=>rfl
    | false=>
      rcases q3 with q3 | q3
      ·cases q3
      ·have:=D0 x3 cs q3;simp only [Ar.a_,Ar.mk.injEq,true_and,and_true];have key: ∀ l:List C,BX (pD x.r id) l=false->l.map (BJ (pD x.r id))=l:=by intro l;induction l<;>simp_all [BX,BJ]
       grind
   have hL1:(st.a_ (pD x.r id) (((st.so.filter (fun d=>d.id != x.r)).map (Ar.a_ (pD x.r id))).map (C_ id e.row (e.cs.set x.k (.isl x.E x.n x.len x.cs))))).u_ id=some ⟨id,e.row,e.cs.set x.k (.isl x.E x.n x.len x.cs),true⟩:=by
    refine g1.v_ ?_ rfl hd;refine mem_map.2 ⟨e,mem_map.2 ⟨e,(by grind),?_⟩,?_⟩
    ·obtain⟨i,r,cs,pu⟩:=e;simp only at hpu;subst hpu;rfl
    ·rw [C3 hid,hid,hpu];rfl
   refine R.adk (p:=p) rs g1 hL1 (g3.trans hb) (fun y hy=>?_) hnd.2 B ?_
   ·obtain⟨y1,y2,y3,v',y4,y5⟩:=hx y (by simp [hy]);obtain⟨hmy,aoI⟩:=AZ y1;have hyr:y.r ≠ x.r:=(by grind);have hyd:=DP y1;have anV:y.r ≠ id:=(by grind);refine⟨g1.abt (adR _ hmy hyr anV (.inl rfl)) rfl hyd rfl,by grind,y3,v',y4,?_⟩;have hpf:pD x.r id y.r=false:=by
     have atY:Cf y.r=false:=by rw [<-aoI];exact(h.deep _ hmy).1
     grind [pD,En]
    grind
   ·refine⟨by simp [St.a_,hB.len],fun i=>?_,by simp [St.a_,hB.ag9],fun i=>?_,fun z hz=>?_,hB.nd,hB.pre⟩
    ·rcases hB.tm i with q | ⟨q1,q2⟩
     ·exact .inl q
     ·right;simp only [St.a_];rw [D7 (by simp [A9,V.c_])];have:=D1 x3 _ q2;rw [show A9 (pD x.r id) (st.tm.getD i .undef)=st.tm.getD i .undef from if_neg (by rw [this];exact Bool.false_ne_true)];grind
    ·rcases hB.gh i with q | ⟨q1,q2⟩
     ·exact .inl q
     ·right;simp only [St.a_];have e1:(st.gh.map (A9 (pD x.r id))).getD i .undef =A9 (pD x.r id) (st.gh.getD i .undef):=by grind [A9]
      have:=D1 x3 _ q2;rw [e1,show A9 (pD x.r id) (st.gh.getD i .undef)=st.gh.getD i .undef from if_neg (by rw [this];exact Bool.false_ne_true)];grind
    ·rcases hB.so z hz with q | ⟨q1,q2,q3,q4⟩
     ·grind [FZ]
     ·right;simp only [map_cons,mem_cons,not_or]at q3;exact⟨adR z q1 q3.1 q2 q4,q2,q3.2,q4⟩
end
end Go.PL
namespace Go.PL
open Go Go.RowKit
def Lb:Op->Bool
 | .move _=>true
 | .nilCheck _=>true
 | .fieldAddr .. =>true
 | .indexAddr .. =>true
 | .unOp .. =>true
 | .extract .. =>true
 | _=>false
theorem ol {P:Program} {F:Fr} {st:St} {a:Act} {w:World} {G:Ax} (h:R F st a w G) {g:Bool} (hg:g=true) {o:Oper} (hA:Lb o.op=true) (hs:(rd P st g o.op).1):
 ∃ v,Aa w G (rd P st g o.op).2 v/\ ∀ w',(execOp a.eval o).run P w'= .ok (.value v) w':=by
 cases ho:o.op<;>simp only [rd,ho,y_]at hs ⊢ <;>try (first | exact hs.elim | (rw [ho]at hA;cases hA;done))
 case move x=>exact⟨_,h.arg hg hs,fun w'=>by simp [execOp,ho]⟩
 case nilCheck x=>
  obtain⟨h1,h2⟩:=hs;have hx:=h.arg hg h1;unfold WO at h2 ⊢;split at h2
  ·rename_i id off e;rw [e]at hx;simp only [Aa,Ab]at hx ⊢;obtain⟨b,hb,hv⟩:=hx;exact⟨_,⟨b,hb,rfl⟩,fun w'=>by simp [execOp,ho,hv]⟩
  ·rename_i cs off e;rw [e]at hx;simp only [Aa,Ab]at hx ⊢;obtain⟨hp,b,o',hv,k1⟩:=hx;exact⟨_,⟨hp,b,o',rfl,k1⟩,fun w'=>by simp [execOp,ho,hv]⟩
  ·rename_i f e;rw [e]at hx;simp only [Aa,Ab]at hx ⊢;exact⟨_,rfl,fun w'=>by simp [execOp,ho,hx]⟩
  ·rename_i f cs e;rw [e]at hx;simp only [Aa,Ab]at hx ⊢;obtain⟨arr,hv,hr⟩:=hx;exact⟨_,⟨arr,rfl,hr⟩,fun w'=>by simp [execOp,ho,hv]⟩
  ·rename_i f cs e;rw [e]at hx;simp only [Aa,Ab]at hx ⊢;obtain⟨arr,hv,hr⟩:=hx;exact⟨_,⟨arr,rfl,hr⟩,fun w'=>by simp [execOp,ho,hv]⟩
  grind
 case unOp op t x=>
  obtain⟨v,q1,q2⟩:=XA (P:=P) (h.arg hg hs.1) hs.2;simp_all [execOp]
 case extract x i=>
  obtain⟨h1,h2⟩:=hs;have hx:=h.arg hg h1;unfold ii at h2 ⊢;split at h2
  ·rename_i vs e;rw [e]at hx;simp only [Aa]at hx;obtain⟨arr,hv,hr⟩:=hx;obtain⟨v,q1,q2⟩:=Gt hr i h2;simp_all [execOp,Instr.extract]
  grind
 case fieldAddr s x f=>
  obtain⟨v,q1,q2⟩:=IP (P:=P) (h.arg hg hs.1) hs.2;simp_all [execOp]
 case indexAddr t x i=>
  obtain⟨v,q1,q2⟩:=IQ (P:=P) h (h.arg hg hs.1) (h.arg hg hs.2.1) hs.2.2;simp_all [execOp]
theorem i7 {P:Program} {F:Fr} {st:St} {a:Act} {w:World} {G:Ax} (h:R F st a w G) {g:Bool} (hg:g=true) {o:Oper} (hA:Lb o.op=true) (hs:(CT P st g o.op).1):
 ∃ v,Aa w G (CT P st g o.op).2 v/\ ∀ w',(execOp a.eval o).run P w'= .ok (.value v) w':=by
 have e:CT P st g o.op=rd P st g o.op:=by
  cases ho:o.op<;>first
   | rfl
   | (rw [ho]at hA;cases hA)
 grind [ol]
def CO (o:Oper):Nat:=match o.guard,o.dst with
 | none,some _=>match Lb o.op with
   | true=>2
   | false=>match o.op with
     | .load .. =>1
     | .slice .. =>1
     | _=>0
 | _,_=>0
def Lc (ops:Array Oper) (i:Nat):Nat:=match ops[i]? with
 | some o=>CO o
 | none=>0
def om (P:Program) (z:Prop) (o:Oper) (a:Act) (w:World):Prop:=
 ∀ d,o.dst=some d-> ∃ u,(z\/u=a.tmps.getD d Go.undef)/\ ∀ w',(CO o=2\/Ca w w')->(execOp a.eval o).run P w'= .ok (.value u) w'
def Frc (ops:Array Oper) (pr:List (List Nat)) (i:Nat) (L:Array Bool):Prop:= ∃ k,L.getD k false=true/\Lc ops k=0/\i∈pr.getD k []
def MB (ops:Array Oper) (lz:List Nat):Bool:=lz.all fun p=>match ops[p]? with
 | some o=>Nat.beq (CO o) 1&&match o.dst with
   | some d=>(List.range ops.size).all fun k=>Nat.beq k p||match ops[k]? with
     | some ok=>(Nat.beq (CO ok) 0|| !(ok.looksAt ops).contains d)&&match ok.dst with
       | some e=> !Nat.beq e d
       | none=>true
     | none=>true
   | none=>false
 | none=>false
def WM (P:Program) (ops:Array Oper) (pr:List (List Nat)) (lz:List Nat) (L:Array Bool) (a:Act) (w:World):Prop:=
 ∀ i o,ops[i]? =some o->CO o ≠ 0->L.getD i false=true-> ¬Frc ops pr i L->om P (i∈lz) o a w
def Up1 (P:Program) (ops:Array Oper) (pr:List (List Nat)) (lz:List Nat) (L:Array Bool) (w:World) (a a':Act):Prop:=
 ∃ p o d u,p∈lz/\ops[p]? =some o/\o.dst=some d/\L.getD p false=true/\ ¬Frc ops pr p L/\(execOp a.eval o).run P w= .ok (.value u) w/\a'=a.put (some d) u
inductive Ups (P:Program) (ops:Array Oper) (pr:List (List Nat)) (lz:List Nat) (L:Array Bool) (w:World) (a:Act):Act->Prop
 | refl:Ups P ops pr lz L w a a
 | step {b c:Act}:Ups P ops pr lz L w a b->Up1 P ops pr lz L w b c->Ups P ops pr lz L w a c
def C1 (P:Program) (ops:Array Oper) (Q:Exit->Act->World->Prop) (pr:List (List Nat)) (lz:List Nat):Nat->Array Bool->Act->World->Prop
 | 0,L,a,w=>Region.ready .any ops L=[]/\Q .normal a w
 | fuel+1,L,a,w=>(Region.ready .any ops L=[]->Q .normal a w)/\
   ∀ i∈Region.ready .any ops L,wpOp P ops Q i (fun a' w'=> ∀ a'',Ups P ops pr lz (L.setIfInBounds i true) w' a' a''->WM P ops pr lz (L.setIfInBounds i true) a'' w'/\C1 P ops Q pr lz fuel (L.setIfInBounds i true) a'' w') a w
def P4 (ops:Array Oper) (pr:List (List Nat)):Bool:=Region.noSelect ops&&(ZR ops pr&&(List.range ops.size).all fun p=>match ops[p]? with
 | none=>true
 | some o=>match CO o,o.dst with
   | 0,_=>true
   | _,none=>false
   | _,some d=> !(o.looksAt ops).contains d&&(List.range ops.size).all fun k=>Nat.beq k p||match ops[k]? with
     | none=>true
     | some ok=>(F7 (pr.getD p []) k||((Nat.beq (CO ok) 0&&F7 (pr.getD k []) p)||match ok.dst with
      | some e=> !(o.looksAt ops).contains e&& !Nat.beq e d
      | none=>true))&&(F7 (pr.getD k []) p||(F7 (pr.getD p []) k||o.apart ops ok)))
section
variable {P:Program} {ops:Array Oper} {Q:Exit->Act->World->Prop} {pr:List (List Nat)} {lz:List Nat}
theorem UG: ∀ (fuel:Nat) (L:Array Bool) (a:Act) (w:World),C1 P ops Q pr lz fuel L a w->wpAny P .any ops Q fuel L a w
 | 0,_,_,_,h=>h
 | fuel+1,_,_,_,h=>⟨h.1,fun i hi=>wpOp_mono (fun a' w' h'=>UG fuel _ a' w' (h' a' .refl).2) (h.2 i hi)⟩
theorem IY {o:Oper} (h:CO o ≠ 0):o.guard=none/\ ∃ d,o.dst=some d:=by unfold CO at h;grind
theorem E4 (h:P4 ops pr=true):Region.noSelect ops=true/\ZR ops pr=true/\ ∀ p o,ops[p]? =some o->CO o ≠ 0-> ∀ d,o.dst=some d->d∉o.looksAt ops/\ ∀ k ok,ops[k]? =some ok->k ≠ p->
 (k∈pr.getD p []\/(CO ok=0/\p∈pr.getD k [])\/ ∀ e,ok.dst=some e->e∉o.looksAt ops/\e ≠ d)/\(p∈pr.getD k []\/k∈pr.getD p []\/o.apart ops ok=true):=by
 simp only [P4,and_eq_true,all_eq_true,mem_range]at h;refine⟨h.1,h.2.1,fun p o hp hc d hd=>?_⟩;have Tw:p<ops.size:=(by grind);have:=h.2.2 p Tw;simp only [hp,hd]at this;simp only [and_eq_true,not_eq_true',all_eq_true,mem_range]at this;refine⟨by grind,fun k ok hk n_=>?_⟩;have hkl:k<ops.size:=(by grind);have:=this.2 k hkl;simp only [hk,or_eq_true,and_eq_true,Dd,beq_eq]at this;rcases this with q | ⟨q1,q2⟩
 ·grind
 ·refine⟨q1.imp id fun q=>q.imp id fun q e he=>?_,q2⟩;rw [he]at q;simp only [and_eq_true,not_eq_true']at q;refine⟨by grind,fun e=>?_⟩;simp_all
def rk (pr:List (List Nat)) (L:Array Bool):Prop:= ∀ k,L.getD k false=true-> ∀ j∈pr.getD k [],L.getD j false=true
theorem Ad9 (hp:ZR ops pr=true): ∀ (k:Nat),k<ops.size-> ∀ j∈pr.getD k [],j<k:=by
 intro k;induction k using Nat.strongRecOn with
 | ind k ih=>
   intro hk j hj;have hp':=hp;simp only [ZR,all_eq_true,mem_range,and_eq_true,or_eq_true,any_eq_true,Dd,blt_eq]at hp';grind
theorem vP {L:Array Bool} {i:Nat} (h:L.getD i true=false):L.getD i false=false:=by grind
theorem adC {L:Array Bool} {i:Nat} (h:L.getD i true=false):(L.setIfInBounds i true).getD i false=true:=by
 rcases Nat.lt_or_ge i L.size with q | q
 all_goals simp_all
theorem Cr {L:Array Bool} {i k:Nat} (h:(L.setIfInBounds i true).getD k false=true):k=i\/L.getD k false=true:=by
 by_cases q:i=k
 all_goals simp_all
theorem Ed (hp:ZR ops pr=true) {L:Array Bool} (hd:rk pr L) {i:Nat} (h:i∈Region.ready .any ops L):i<ops.size/\L.getD i true=false/\ ∀ j∈pr.getD i [],L.getD j false=true:=by
 obtain⟨h0,o,ho,abg⟩:=mem_ready.1 h;have Tw:i<ops.size:=(by grind);refine⟨Tw,h0,fun j hj=>?_⟩;have hp':=hp;simp only [ZR,all_eq_true,mem_range,and_eq_true,or_eq_true,any_eq_true,Dd,blt_eq]at hp';have dir: ∀ k∈dC ops i,L.getD k false=true:=fun k hk=>by unfold dC at hk;grind
 rcases (hp' i Tw).2 j hj with q | ⟨m,hm,q⟩
 ·grind
 ·exact hd m (dir m hm) j q
theorem rk.set (hp:ZR ops pr=true) {L:Array Bool} (hd:rk pr L) {i:Nat} (h:i∈Region.ready .any ops L):rk pr (L.setIfInBounds i true):=fun k hk j hj=>by
 rcases Cr hk with rfl | hk
 ·exact getD_set_true ((Ed hp hd h).2.2 j hj)
 ·exact getD_set_true (hd k hk j hj)
theorem eh (a:Act) (d:Nat) (v:Value):a.put (some d) ((a.put (some d) v).tmps.getD d Go.undef)=a.put (some d) v:=by
 rcases Nat.lt_or_ge d a.tmps.size with q | q
 all_goals simp_all [Act.put,Array.setIfInBounds_eq_of_size_le]
theorem Cs {a:Act} {x:Option Tmp} {v:Value} {d:Nat} (h: ∀ e,x=some e->e ≠ d):(a.put x v).tmps.getD d Go.undef=a.tmps.getD d Go.undef:=by
 cases x with
 | none=>rfl
 | some e=>
   have:=h e rfl;simp_all [Act.put]
theorem om.afb {z:Prop} {o:Oper} {a:Act} {w:World} {x:Option Tmp} {v:Value} (hs: ∀ cs b,o.op ≠ .select cs b) (h1: ∀ e,x=some e->e∉o.looksAt ops) (h2: ∀ d e,o.dst=some d->x=some e->e ≠ d):om P z o (a.put x v) w↔om P z o a w:=by unfold om;refine forall_congr' fun d=>forall_congr' fun hd=>?_;rw [execOp_put o hs a x v h1,Cs (by grind)]
theorem vQ (a:Act) (d:Nat) (v u:Value):(a.put (some d) v).put (some d) u=a.put (some d) u:=by simp only [Act.put,Array.setIfInBounds_setIfInBounds]
theorem rl (a:Act) {d e:Nat} (h:e ≠ d) (v u:Value):(a.put (some d) v).put (some e) u=(a.put (some e) u).put (some d) v:=by simp_all [Act.put,Array.setIfInBounds_comm]
theorem GB (h:MB ops lz=true) {p:Nat} (hp:p∈lz) {o:Oper} (ho:ops[p]? =some o):CO o=1/\ ∀ d,o.dst=some d-> ∀ k ok,ops[k]? =some ok->k ≠ p->(CO ok ≠ 0->d∉ok.looksAt ops)/\ ∀ e,ok.dst=some e->e ≠ d:=by
 simp only [MB,all_eq_true]at h;have:=h p hp;rw [ho]at this;simp only [and_eq_true,beq_eq]at this;refine⟨this.1,fun d hd k ok hk n_=>?_⟩;have h2:=this.2;rw [hd]at h2;simp only [all_eq_true,mem_range]at h2;have h3:=h2 k (Array.getElem?_eq_some_iff.1 hk).1;rw [hk]at h3;simp only [or_eq_true,and_eq_true,beq_eq,not_eq_true']at h3;rcases h3 with q | ⟨q1,q2⟩
 ·grind
 ·refine⟨fun hc=>?_,fun e he=>?_⟩
  ·grind
  ·rw [he]at q2;intro e';simp_all
theorem WM.up1 (IN:P4 ops pr=true) (hlz:MB ops lz=true) {L:Array Bool} {a a':Act} {w:World} (h:WM P ops pr lz L a w) (hu:Up1 P ops pr lz L w a a'):WM P ops pr lz L a' w:=by
 obtain⟨hns,hp,abO⟩:=E4 IN;have R_:=Region.noSelect_spec hns;obtain⟨p,o,d,u,h1,h2,h3,h4,h5,h6,rfl⟩:=hu;obtain⟨k1,k2⟩:=GB hlz h1 h2;have z_:=(abO p o h2 (by omega) d h3).1;intro q oq hq hc hl hf;by_cases hqp:q=p
 ·subst hqp;rw [h2]at hq;injection hq with hq;subst hq;intro d' Y_;obtain⟨u',m1,m2⟩:=h q o h2 hc hl hf d' Y_;refine⟨u', .inl h1,fun w' hw'=>?_⟩;rw [execOp_put o (by grind) a (some d) u (fun e he=>by injection he with he;exact he▸z_)];grind
 ·obtain⟨m1,m2⟩:=k2 d h3 q oq hq hqp;exact(om.afb (ops:=ops) (by grind) (by grind) (by grind)).2 (h q oq hq hc hl hf)
theorem WM.ups (IN:P4 ops pr=true) (hlz:MB ops lz=true) {L:Array Bool} {a a':Act} {w:World} (h:WM P ops pr lz L a w) (hu:Ups P ops pr lz L w a a'):WM P ops pr lz L a' w:=by
 induction hu with
 | refl=>exact h
 | step _ h1 ih=>exact ih.up1 IN hlz h1
theorem Ups.trans {L:Array Bool} {a b c:Act} {w:World} (h:Ups P ops pr lz L w a b) (h2:Ups P ops pr lz L w b c):Ups P ops pr lz L w a c:=by
 induction h2 with
 | refl=>exact h
 | step _ h1 ih=>exact ih.step h1
theorem Ups.put (IN:P4 ops pr=true) (hlz:MB ops lz=true) {i:Nat} {oi:Oper} {v:Value} (hi:ops[i]? =some oi) (hc:CO oi ≠ 0) {L:Array Bool} (hdc:rk pr L) (hun:L.getD i false=false) {a b:Act} {w:World} (h:Ups P ops pr lz L w a b):Ups P ops pr lz (L.setIfInBounds i true) w (a.put oi.dst v) (b.put oi.dst v):=by
 obtain⟨hns,hp,abO⟩:=E4 IN;have R_:=Region.noSelect_spec hns;obtain⟨_,d,hd⟩:=IY hc;induction h with
 | refl=>exact .refl
 | step _ hu ih=>
   refine ih.step ?_;obtain⟨p,o,e,u,h1,h2,h3,h4,h5,h6,rfl⟩:=hu;obtain⟨k1,k2⟩:=GB hlz h1 h2;have n_:i ≠ p:=(by grind);have hde:=(k2 e h3 i oi hi n_).2 d hd;have hcN:Lc ops i ≠ 0:=by grind [Lc]
   have alV:d∉o.looksAt ops:=by
    rcases ((abO p o h2 (by omega) e h3).2 i oi hi n_).1 with q | q | q
    ·have:=hdc p h4 i q;grind
    all_goals grind
   refine⟨p,o,e,u,h1,h2,h3,getD_set_true h4,fun⟨k,hk,hk0,hpk⟩=>?_,?_,?_⟩
   ·rcases Cr hk with rfl | hk
    ·grind
    ·exact h5 ⟨k,hk,hk0,hpk⟩
   ·rw [execOp_put o (by grind) _ oi.dst v (fun e he=>by rw [hd]at he;injection he with he;exact he▸alV)];exact h6
   ·rw [hd,rl _ (Ne.symm hde)]
theorem zD (IN:P4 ops pr=true) (hlz:MB ops lz=true) {i:Nat} {oi:Oper} {v:Value} (hi:ops[i]? =some oi) (hc:CO oi ≠ 0) (hQ: ∀ c a w, ¬Q (.panic c) a w):
 ∀ (fuel:Nat) (L:Array Bool) (a:Act) (w:World),rk pr L->i∈Region.ready .any ops L->
   (∀ a'',Ups P ops pr lz (L.setIfInBounds i true) w (a.put oi.dst v) a''->WM P ops pr lz (L.setIfInBounds i true) a'' w/\C1 P ops Q pr lz fuel (L.setIfInBounds i true) a'' w)->C1 P ops Q pr lz (fuel+1) L a w:=by
 obtain⟨hns,hp,abO⟩:=E4 IN;have R_:=Region.noSelect_spec hns;obtain⟨hgd,d,hd⟩:=IY hc;have z_:=(abO i oi hi hc d hd).1;have hcN:Lc ops i ≠ 0:=by grind [Lc]
 have wanted: ∀ a:Act,Region.wanted oi (yielded ops a.tmps)=true:=fun a=>C9 hgd _;have akT: ∀ (L:Array Bool),rk pr L->i∈Region.ready .any ops L-> ¬Frc ops pr i (L.setIfInBounds i true):=fun L hdc hr ⟨k,hk,hk0,hik⟩=>by
  obtain⟨_,hun,_⟩:=Ed hp hdc hr;rcases Cr hk with rfl | hk
  ·grind
  ·have:=hdc k hk i hik;grind
 have self: ∀ (L:Array Bool) (a:Act) (w:World) (fuel:Nat),rk pr L->i∈Region.ready .any ops L->(∀ a'',Ups P ops pr lz (L.setIfInBounds i true) w (a.put oi.dst v) a''->WM P ops pr lz (L.setIfInBounds i true) a'' w/\C1 P ops Q pr lz fuel (L.setIfInBounds i true) a'' w)->
  wpOp P ops Q i (fun a' w'=> ∀ a'',Ups P ops pr lz (L.setIfInBounds i true) w' a' a''->WM P ops pr lz (L.setIfInBounds i true) a'' w'/\C1 P ops Q pr lz fuel (L.setIfInBounds i true) a'' w') a w:=fun L a w fuel hdc hr H=>by
  obtain⟨_,hun,_⟩:=Ed hp hdc hr;obtain⟨u,hz,hu⟩:=(H _ .refl).1 i oi hi hc (adC hun) (akT L hdc hr) d hd;have hex:=hu w (.inr (Ca.refl w));have aoO:=hex;rw [execOp_put oi (by grind) a oi.dst v (fun e he=>by rw [hd]at he;injection he with he;exact he▸z_)]at hex;have hy:YieldsIf P ops (fun w'=>w'=w) oi u a:= .inl ⟨wanted a,fun w' e=>by subst e;exact hex⟩;refine hy.wpOp hi rfl ?_;rcases hz with hz | hz
  ·intro a'' ag6;refine H a'' (Ups.trans (.step .refl ?_) ag6);exact⟨i,oi,d,u,hz,hi,hd,adC hun,akT L hdc hr,aoO,by rw [hd,vQ]⟩
  ·subst hz;intro a'' ag6;rw [hd,eh]at ag6;grind
 intro fuel;induction fuel with
 | zero=>
   intro L a w hdc hr H;refine⟨(by grind),fun j hj=>?_⟩;by_cases hji:j=i
   ·simp_all
   ·have:=ready_mono hj hji;rw [(H _ .refl).2.1]at this;cases this
 | succ fuel ih=>
   intro L a w hdc hr H;refine⟨(by grind),fun j hj=>?_⟩;by_cases hji:j=i
   ·simp_all
   ·have h1:=(H _ .refl).2.2 j (ready_mono hj hji);obtain⟨hjl,alY,alZ⟩:=Ed hp hdc hj;obtain⟨hil,aoD,al1⟩:=Ed hp hdc hr;have hoj:ops[j]? =some ops[j]:=(by grind);have nij:i∉pr.getD j []:=(by grind);have nji:j∉pr.getD i []:=(by grind);have hap:oi.apart ops ops[j]=true:=by grind
    have hy:YieldsIf P ops (fun _=>False) oi v a:= .inl ⟨wanted a,fun _ h=>h.elim⟩;have h2:=wpOp_putIf hoj hap (fun cs b=>R_ i oi cs b hi) (fun cs b=>R_ j _ cs b hoj) (fun c a w q=>absurd q (hQ c _ w)) hy h1;have hdj:=hdc.set hp hj;have hir:i∈Region.ready .any ops (L.setIfInBounds j true):=ready_mono hr (Ne.symm hji);have aoE:(L.setIfInBounds j true).getD i false=false:=by rw [getD_set_ne false hji];grind
    refine wpOp_mono (fun a' w' ⟨_,h34⟩=>?_) h2;rw [Array.setIfInBounds_comm _ _ (Ne.symm hji)]at h34;intro a3 ha3;have H3: ∀ a'',Ups P ops pr lz ((L.setIfInBounds j true).setIfInBounds i true) w' (a3.put oi.dst v) a''->WM P ops pr lz ((L.setIfInBounds j true).setIfInBounds i true) a'' w'/\C1 P ops Q pr lz fuel ((L.setIfInBounds j true).setIfInBounds i true) a'' w':=fun a'' ag6=>
     h34 a'' ((ha3.put IN hlz hi hc hdj aoE).trans ag6)
    refine⟨fun p op hop hcp hpl hpf=>?_,(by grind)⟩;have h3:=(H3 _ .refl).1;have n_:p ≠ i:=(by grind);have nip:i∉pr.getD p []:=fun q=>by have:=hdj p hpl i q;grind
    obtain⟨_,dp,hdp⟩:=IY hcp;have hpd: ∀ e,oi.dst=some e->e∉op.looksAt ops/\e ≠ dp:=by
     rcases ((abO p op hop hcp dp hdp).2 i oi hi (Ne.symm n_)).1 with q | q | q
     ·grind
     all_goals grind
    have:=h3 p op hop hcp (getD_set_true hpl) (fun⟨k,hk,hk0,hpk⟩=>by
     rcases Cr hk with rfl | hk
     ·grind
     ·exact hpf ⟨k,hk,hk0,hpk⟩)
    exact(om.afb (ops:=ops) (by grind) (by grind) (by grind)).1 this
theorem WM.take (IN:P4 ops pr=true) {i:Nat} {oi:Oper} {v:Value} (hi:ops[i]? =some oi) (hc:CO oi ≠ 0) {L:Array Bool} {a:Act} {w:World} (hdc:rk pr L) (hr:i∈Region.ready .any ops L)
 (hS:WM P ops pr lz L a w) (hW:om P (i∈lz) oi (a.put oi.dst v) w):WM P ops pr lz (L.setIfInBounds i true) (a.put oi.dst v) w:=by
 obtain⟨hns,hp,abO⟩:=E4 IN;have R_:=Region.noSelect_spec hns;obtain⟨hil,aoD,al1⟩:=Ed hp hdc hr;intro p op hop hcp hpl hpf;rcases Cr hpl with rfl | ah1
 ·grind
 ·clear hpl;have hpl:=ah1;have n_:p ≠ i:=(by grind);have nip:i∉pr.getD p []:=fun q=>by have:=hdc p hpl i q;grind
  obtain⟨_,dp,hdp⟩:=IY hcp;have hpd: ∀ e,oi.dst=some e->e∉op.looksAt ops/\e ≠ dp:=by grind
  refine(om.afb (ops:=ops) (by grind) (by grind) (by grind)).2 ?_;exact hS p op hop hcp hpl (fun⟨k,hk,hk0,hpk⟩=>hpf ⟨k,getD_set_true hk,hk0,hpk⟩)
theorem vR {o:Oper} {a:Act} {w:World} {K:Act->World->Prop} (h:o.wp P a w K Q):o.wp P a w (fun a' w'=>K a' w'/\ ∃ ds u,a'=({a with defers:=ds}:Act).put o.dst u) Q:=by
 unfold Oper.wp at *;generalize (execOp a.eval o).run P w=r at *;cases r with
 | ok n w'=>
   cases n<;>simp only [Oper.upon]at h ⊢ <;>first
    | grind
    | grind
    | grind
    | grind
    | exact h
 | halt x w'=>cases x<;>simp only [Oper.upon]at h ⊢ <;>exact h
theorem i8 (IN:P4 ops pr=true) (hlz:MB ops lz=true) {j:Nat} {oj:Oper} (hj:ops[j]? =some oj) (hc:CO oj=0) {L:Array Bool} {a:Act} {w:World} (hdc:rk pr L) (hrj:j∈Region.ready .any ops L) {fuel:Nat} (hS:WM P ops pr lz L a w) {K:Act->World->Prop}
 (hw:if Region.wanted oj (yielded ops a.tmps)=true then oj.wp P a w K Q else K (a.put oj.dst undef) w)
 (hB: ∀ a' w',K a' w'-> ∀ p op,ops[p]? =some op->CO op=1->L.getD p false=true-> ¬Frc ops pr p (L.setIfInBounds j true)->(∀ w1,Ca w w1->(execOp a'.eval op).run P w1=(execOp a.eval op).run P w1)->(∀ d,op.dst=some d->a'.tmps.getD d Go.undef=a.tmps.getD d Go.undef)->om P (p∈lz) op a w->om P (p∈lz) op a' w')
 (hU: ∀ a' w' a'',K a' w'->Up1 P ops pr lz (L.setIfInBounds j true) w' a' a''->K a'' w')
 (hK: ∀ a' w',K a' w'->(∀ d',oj.dst ≠ some d'->(∀ (p:Nat) (op:Oper),ops[p]? =some op->CO op ≠ 0->op.dst ≠ some d')->a'.tmps.getD d' Go.undef=a.tmps.getD d' Go.undef)->WM P ops pr lz (L.setIfInBounds j true) a' w'->C1 P ops Q pr lz fuel (L.setIfInBounds j true) a' w'):
 wpOp P ops Q j (fun a' w'=> ∀ a'',Ups P ops pr lz (L.setIfInBounds j true) w' a' a''->WM P ops pr lz (L.setIfInBounds j true) a'' w'/\C1 P ops Q pr lz fuel (L.setIfInBounds j true) a'' w') a w:=by
 obtain⟨hns,hp,abO⟩:=E4 IN;have R_:=Region.noSelect_spec hns;obtain⟨hjl,alY,alZ⟩:=Ed hp hdc hrj;have key: ∀ a' w',K a' w'->(∃ ds u,a'=({a with defers:=ds}:Act).put oj.dst u)-> ∀ a'',Ups P ops pr lz (L.setIfInBounds j true) w' a' a''->WM P ops pr lz (L.setIfInBounds j true) a'' w'/\C1 P ops Q pr lz fuel (L.setIfInBounds j true) a'' w':=by
  intro a' w' hk ⟨ds,u,ha'⟩;have hSS:WM P ops pr lz (L.setIfInBounds j true) a' w':=by
   intro p op hop hcp hpl hpf;have n_:p ≠ j:=(by grind);have hpl:L.getD p false=true:=by grind [Cr]
   have nip:j∉pr.getD p []:=fun q=>by have:=hdc p hpl j q;grind
   obtain⟨_,dp,hdp⟩:=IY hcp;have hpd: ∀ e,oj.dst=some e->e∉op.looksAt ops/\e ≠ dp:=by
    rcases ((abO p op hop hcp dp hdp).2 j oj hj (Ne.symm n_)).1 with q | q | q
    ·grind
    ·exact absurd ⟨j,adC alY,by unfold Lc;rw [hj];exact hc,q.2⟩ hpf
    ·exact q
   have hold: ¬Frc ops pr p L:=fun⟨k,hk,hk0,hpk⟩=>hpf ⟨k,getD_set_true hk,hk0,hpk⟩;have hW:=hS p op hop hcp hpl hold;have e1:execOp a'.eval op=execOp a.eval op:=by rw [ha'];exact execOp_put op (by grind) ({a with defers:=ds}:Act) oj.dst u (fun e he=>(hpd e he).1)
   have e2: ∀ d,op.dst=some d->a'.tmps.getD d Go.undef=a.tmps.getD d Go.undef:=(by grind [Cs]);by_cases h2:CO op=2
   ·intro d hd;obtain⟨u',m1,m2⟩:=hW d hd;simp_all
   ·have h1:CO op=1:=by
     have:CO op<=2:=by unfold CO;grind
     omega
    grind
  have hsl: ∀ d',oj.dst ≠ some d'->a'.tmps.getD d' Go.undef=a.tmps.getD d' Go.undef:=(by grind [Cs]);intro a'' hu;have hk':K a'' w'/\ ∀ d',oj.dst ≠ some d'->(∀ (p:Nat) (op:Oper),ops[p]? =some op->CO op ≠ 0->op.dst ≠ some d')->a''.tmps.getD d' Go.undef=a.tmps.getD d' Go.undef:=by
   induction hu with
   | refl=>grind
   | step _ h1 ih=>
     refine⟨hU _ _ _ ih.1 h1,fun d' Y_ hp'=>?_⟩;obtain⟨p,o,d,u,q1,q2,q3,q4,q5,q6,rfl⟩:=h1;rw [Cs (fun e he q=>?_)]
     ·exact ih.2 d' Y_ hp'
     grind [GB]
  have auA:=hSS.ups IN hlz hu;grind
 unfold wpOp;simp only [hj];split
 ·rename_i hwt;rw [if_pos hwt]at hw;exact .inl (Oper.wp_mono (by grind) (vR hw))
 grind
end
theorem P5 {P:Program} {F:Fr} {st:St} {a:Act} {w:World} {G:Ax} (h:R F st a w G) {d:Nat} {t:TypeId} {len:Nat} {ps:Array (Nat×Operand)} (hs:(AS P st d t len ps.toList).1) {r:Value} {w':World}
 (hr:(Instr.buildSlice t len (ps.map fun(i,x)=>(i,a.eval x))).run P w= .ok r w'):Ca w w':=by
 unfold AS at *;split at hs
 ·rename_i E n by' R_;split at hs
  ·rename_i z hz;split at hs
   ·rename_i cs hf;obtain⟨h1,h2,h3,h4⟩:=hs;obtain⟨i,zv,hu,hi,hzv,Tr,hby,hzs⟩:=Bh R_;obtain⟨i',zv',M_,Tq,hc⟩:=EQ hz;rw [hi]at M_;injection M_ with M_;subst M_;rw [hzv]at Tq;injection Tq with Tq;subst Tq;have hzr:=IT (DW (w:=w) (G:=G) hc) (by omega) len;obtain⟨Q_,q1,q2⟩:=GT hf (LX (h.parts rfl h1)) hzr;have q1':Instr.fill (fun i=>some (i*n,n)) ((Array.range (len*n)).map (zv.cells[· % zv.cells.size]!)) (ps.map fun(i,x)=>(i,a.eval x)).toList =some Q_:=by simp_all
    rw [aaj hu hi hzv Tr h3 h4 q1']at hr;grind [EP]
   grind
  grind
 grind
end Go.PL
