/- The pure logic: Tw2, Tq, Tr, Ts, Tv, Tv2, PlYh, PlPu, PlPa, PlPb, PlPc, PlPl, PlPq, PlPd, PlPx. -/
import Derived.Test.YtfmknfnfpeopeaaGreatDoorTu3toTz
import Derived.Test.YtfmknfnfpeopeaaGreatDoorPlYbtoTu2
import Derived.Shelf.Spec.SlicesInsert
import Derived.Shelf.Spec.SlicesInsertGrow
import Derived.Test.YtfmknfnfpeopeaaGreatDoorPlZtoPlYa
import Derived.Lib.ItoaNum
import Derived.Test.YtfmknfnfpeopeaaGreatDoorPlNtoPlY
import Derived.Lib.AtoiAll
import Derived.Lib.Bytealg
import Derived.JoinedOf
import Derived.Handed
import Derived.LaidSub
import Derived.Lib.LaidTab
set_option linter.all false
set_option linter.all false
namespace Go.PL
open Go Go.RowKit
variable {T:Be}
def oK (acc:List (List Nat)) (d:List Nat) (i:Nat):List Nat:=(List.range i).filter fun j=>Hj d j||d.any fun k=>Hj (acc.getD k []) j
def mB (ops:Array Oper):Nat→Nat→List (List Nat)→List (List Nat)
 | 0,_,acc=>acc
 | n+1,i,acc=>mB ops n (i+1) (acc++[oK acc (Xj ops i) i])
def mC (ops:Array Oper):List (List Nat):=mB ops ops.size 0 []
def ML (ops:Array Oper) (v:List Bool) (i:Nat):Bool:= !bv v i&&(Xj ops i).all (bv v)
theorem X1 {ops:Array Oper} {v:List Bool} (hv:v.length=ops.size):Region.ready .any ops v.toArray=(List.range ops.size).filter (ML ops v):=by
 unfold Region.ready
 refine List.filter_congr fun i hi=>?_
 have hi:i<ops.size:=by simpa using hi
 have ho:ops[i]? =some ops[i]:=Array.getElem?_eq_getElem hi
 unfold ML Xj
 rw [ho]
 have e1:v.toArray.getD i true=bv v i:=by
  have:i<v.length:=by omega
  simp [bv,Array.getD_eq_getD_getElem?,List.getD_eq_getElem?_getD,this]
 rw [e1]
 congr 1
 simp only [Option.map_some,Option.getD_some]
 rw [Bool.eq_iff_iff]
 simp only [Array.all_eq_true_iff_forall_mem,Bool.or_eq_true,Bool.not_eq_true',List.all_eq_true,List.mem_map,List.mem_filter,forall_exists_index,and_imp,forall_apply_eq_imp_iff₂]
 constructor
 ·intro h x e he hb hx
  subst hx
  have:=h e (by simpa using he)
  rw [hb]at this
  simpa [bv,Array.getD_eq_getD_getElem?,List.getD_eq_getElem?_getD] using this
 ·intro h e he
  cases hb:Region.binds .any e
  ·exact .inl rfl
  ·right
   have:=h e.on e (by simpa using he) hb rfl
   simpa [bv,Array.getD_eq_getD_getElem?,List.getD_eq_getElem?_getD] using this
def jG (ops:Array Oper) (v:List Bool):Option Nat:=(List.range ops.size).find? fun i=>ML ops v i&& !Nat.beq (J9 ops i) 0
def ZB (ops:Array Oper) (i:Nat):Bool:=match ops[i]? with
 | some o=>dn o
 | none=>false
def fk (ops:Array Oper) (v:List Bool):Option Nat:=match (List.range ops.size).filter fun i=>ML ops v i&& !ZB ops i with
 | [i]=>some i
 | []=>(List.range ops.size).find? fun i=>ML ops v i&&ZB ops i
 | _=>none
def lb (ops:Array Oper) (pr:List (List Nat)) (v:List Bool) (i:Nat):Bool:=(List.range ops.size).all fun k=>bv v k||(Nat.beq k i||(ZB ops k||(pr.getD k []).any fun j=> !bv v j&&(!ZB ops j||Nat.beq j i)))
def oB:DV T→Bool
 | .u =>true
 | _=>false
def nX (ops:Array Oper) (v:List Bool) (st:Ag T):Bool:=(List.range ops.size).all fun k=>bv v k||match ops[k]? with
 | some o=> !dn o||match o.dst with
   | some d=>oB (st.get d)&&Nat.blt d st.m
   | none=>false
 | none=>true
def R3 (ops:Array Oper):Bool:=(List.range ops.size).all fun i=>(List.range ops.size).all fun j=>Nat.beq i j||match ops[i]?,ops[j]? with
 | some o,some o'=>match o.dst,o'.dst with
   | some d,some e=> !Nat.beq d e
   | _,_=>true
 | _,_=>true
def R4 (P:Program) (ops:Array Oper) (st:Ag T):Bool:=ops.toList.all fun o=> !dn o||(fj P st o).isSome
def cT:List Oper→Ag T→Ag T
 | [],st=>st
 | o::r,st=>match dn o with
   | true=>cT r (st.put o.dst .u)
   | false=>cT r st
def fl (ops:Array Oper) (pr:List (List Nat)) (v:List Bool) (p:Nat):Bool:=(List.range ops.size).any fun k=>bv v k&&(Nat.beq (J9 ops k) 0&&Hj (pr.getD k []) p)
def R5 (ops:Array Oper) (pr:List (List Nat)) (v:List Bool) (pd:List KW) (st:Ag T):Bool:=
 (List.range ops.size).all fun p=> !bv v p||(!Nat.beq (J9 ops p) 1||(fl ops pr v p||pd.any fun q=>Nat.beq q.i p&&cR st q))
def Pa (ops:Array Oper) (pr:List (List Nat)) (lz:List Nat) (v:List Bool) (pd:List KW) (st:Ag T):Bool:=
 lz.all fun p=> !bv v p||(fl ops pr v p||pd.any fun q=>Nat.beq q.i p&&cR st q)
def oL:HA→Bool
 | .n =>true
 | _=>false
def fp (o:Oper):Bool:=match o.op,o.guard,o.dst with
 | .buildSlice ..,none,some _=>true
 | _,_,_=>false
def fq (o:Oper) (st:Ag T):Bool:=match o.dst with
 | some d=>Nat.blt d st.m
 | none=>false
def mD (o:Oper):Bool:=match o.op with
 | .load .. =>true
 | _=>false
def mE:HA→Option Bool
 | .q (.sub md)=>some md
 | _=>none
def mF (P:Program) (st:Ag T) (o:Oper):HA→Bool
 | .q .dlx =>true
 | .q .au =>oA P st o
 | _=>false
def nY {P:Program} {I:World→Prop} (Γ:List (CE T P I)) (rec:cO T) (ops:Array Oper) (o:Oper) (st:Ag T) (h:HA) (R:Type) (K:Ag T→Option R):Option R:=match h with
 | .n =>lX Γ ops o st R K
 | .q sp=>iH Γ ops o st sp R K
 | .c h=>ZA P rec o h st R K
 | .j sh h=>jn (fun v:RT T sh.ts=>match sh.inst st (Cf sh.ts v)with
  | some s=>K s
  | none=>none) (fun j=>ZA P rec o h st R fun b=>match sh.gen st b with
  | some v=>j v
  | none=>none)
 | .u .. =>none
def IR {P:Program} {I:World→Prop} (Γ:List (CE T P I)) (rec:cO T) (ops:Array Oper) (pr:List (List Nat)) (lz:List Nat) (il:Hl):Nat→List Bool→List KW→Ag T→(R:Type)→(Ag T→Option R)→Option R
 | 0,v,pd,st,R,K=>match Pa ops pr lz v pd st with
   | false=>none
   | true=>match (List.range ops.size).all (bv v)with
     | true=>NM il ops.size st R K
     | false=>none
 | n+1,v,pd,st,R,K=>match Pa ops pr lz v pd st with
   | false=>none
   | true=>match jG ops v with
     | some i=>match ops[i]? with
       | some o=>match Nat.beq (C4 o) 2,fq o st with
         | true,true=>IF P [] st o.op R fun u=>IR Γ rec ops pr lz il n (v.set i true) pd (st.put o.dst u) R K
         | false,true=>match mE (JF il i),mF P st o (JF il i),mD o with
           | some md,_,_=>iu P o md st R fun st'=>IR Γ rec ops pr lz il n (v.set i true) pd st' R K
           | none,true,_=>dlx P o st R fun st'=>IR Γ rec ops pr lz il n (v.set i true) pd st' R K
           | none,false,false=>none
           | none,false,true=>match k9 P (Hj lz i) o i st with
             | some (st',q)=>IR Γ rec ops pr lz il n (v.set i true) (q::pd) st' R K
             | none=>IF P [] st o.op R fun u=>IR Γ rec ops pr lz il n (v.set i true) pd (st.put o.dst u) R K
         | _,_=>none
       | none=>none
     | none=>match fk ops v with
       | some i=>match ops[i]?,lb ops pr v i&&nX ops v st with
         | some o,true=>match C4 o,dn o with
           | 0,true=>match o.dst,fj P st o with
             | some d,some x=>match st.new (d::st.pre) x with
               | some s=>IR Γ rec ops pr lz il n (v.set i true) pd (s.put (some d) (.c (.c (RZ x (d::st.pre))))) R K
               | none=>none
             | _,_=>none
           | 0,false=>match fp o&&oL (JF il i)with
             | true=>cj P st o R fun st'=>IR Γ rec ops pr lz il n (v.set i true) pd st' R K
             | false=>nY Γ rec ops o st (JF il i) R fun st'=>match R5 ops pr (v.set i true) pd st' with
               | true=>IR Γ rec ops pr lz il n (v.set i true) pd st' R K
               | false=>none
           | _,_=>none
         | _,_=>none
       | none=>none
theorem X2 {α:Type} {p:α→Bool} {l:List α} {x:α} (h:l.find? p=some x):x∈l∧p x=true:=⟨List.mem_of_find?_eq_some h,List.find?_some h⟩
theorem E9 (v:List Bool) (k:Nat):v.toArray.getD k false=bv v k:=by simp [bv,Array.getD_eq_getD_getElem?,List.getD_eq_getElem?_getD]
theorem CM {v:List Bool} {i k:Nat} (hi:i<v.length):bv (v.set i true) k=(k==i||bv v k):=by
 simp only [bv,List.getD_eq_getElem?_getD,List.getElem?_set]
 by_cases h:i=k
 ·subst h;simp [hi]
 ·rw [if_neg h]
  have:(k==i)=false:=by simpa using Ne.symm h
  rw [this,Bool.false_or]
theorem Ki {o:Oper} (h:dn o=true):o.guard=none∧(∃ d,o.dst=some d)∧C4 o=0:=by
 unfold dn at h
 split at h
 ·rename_i hg hd hop
  refine⟨hg,⟨_,hd⟩,?_⟩
  simp [C4,hg,hd,hop,IH]
 ·rename_i hg hd hop
  refine⟨hg,⟨_,hd⟩,?_⟩
  simp [C4,hg,hd,hop,IH]
 ·cases h
theorem H7.take {F0 F:Fr} {D:List (Nat×Nat)} {st:St} {a:Act} {w w1:World} {G:Ay} (t:H7 F0 F D) (h:R F st a w G) (ho:JR w w1) (hs:Cv w w1) (i:Nat):H7 F0 (F.take w1 w.heap.size G) ((i,w.heap.size)::D):=by
 have h1:=Nat.le_trans t.size h.hsize
 refine⟨t.inv0,t.gv,fun x=>?_,Nat.le_trans h1 hs.size,fun x hx hx2=>?_,fun x ⟨j,hj⟩=>?_,fun p hp=>?_,ho.os.trans (h.os.trans t.os),ho.tape.trans (h.tape.trans t.tape),ho.output.trans (h.output.trans t.output)⟩
 ·show F.av x∨x=w.heap.size↔_
  rw [t.av]
  constructor
  ·rintro((q | ⟨j,q⟩) | q)
   ·exact .inl q
   ·exact .inr ⟨j,List.mem_cons_of_mem _ q⟩
   ·exact .inr ⟨i,by rw [q];exact List.mem_cons_self⟩
  ·rintro(q | ⟨j,q⟩)
   ·exact .inl (.inl q)
   ·rcases List.mem_cons.1 q with q | q
    ·injection q with _ q;exact .inr q
    ·exact .inl (.inr ⟨j,q⟩)
 ·obtain⟨k1,k2⟩:=t.kept x hx hx2
  refine⟨fun⟨j,hj⟩=>?_,?_⟩
  ·rcases h.new j x hj with q | q
   ·have:=t.size;omega
   ·exact k1 q
  ·show w1.heap[x]? =_
   rw [hs.block x (by omega),h.ext x (Nat.lt_of_lt_of_le hx t.size) k1,k2]
 ·rcases h.new j x hj with q | q
  ·exact .inl (Nat.le_trans t.size q)
  ·exact t.old x q
 ·rcases List.mem_cons.1 hp with rfl | hp
  ·exact h1
  ·exact t.new p hp
theorem Wg {α β:Type} {f:α→β}: ∀ {l:List α} {x y:α},(l.map f).Nodup →x∈l→y∈l→f x=f y→x=y
 | a::l,x,y,h,hx,hy,e=>by
   rw [List.map_cons]at h
   obtain⟨h1,h2⟩:=List.nodup_cons.1 h
   rcases List.mem_cons.1 hx with q1 | q1<;>rcases List.mem_cons.1 hy with q2 | q2
   ·rw [q1,q2]
   ·subst q1;exact absurd (List.mem_map.2 ⟨y,q2,e.symm⟩) h1
   ·subst q2;exact absurd (List.mem_map.2 ⟨x,q1,e⟩) h1
   ·exact Wg h2 q1 q2 e
theorem H7.give {F0 F:Fr} {D:List (Nat×Nat)} {i b:Nat} (t:H7 F0 F D) (hi:(i,b)∈D) (n1:(D.map (·.1)).Nodup) (n2:(D.map (·.2)).Nodup) (hl: ∀ x,F0.av x→x<F0.w0.heap.size):H7 F0 (F.give b) (D.filter fun p=>p.1 != i):=by
 have hb:=t.new _ hi
 simp only at hb
 refine⟨t.inv0,t.gv,fun x=>?_,t.size,fun x hx hx2=>?_,fun x hx=>?_,fun p hp=>t.new p (List.mem_filter.1 hp).1,t.os,t.tape,t.output⟩
 ·show F.av x∧x ≠ b↔_
  rw [t.av]
  constructor
  ·rintro⟨q | ⟨j,q⟩,hne⟩
   ·exact .inl q
   ·refine .inr ⟨j,List.mem_filter.2 ⟨q,?_⟩⟩
    have:j ≠ i:=fun e=>by
     subst e
     have:=Wg n1 q hi rfl
     injection this with _ this
     exact hne this
    simpa using this
  ·rintro(q | ⟨j,q⟩)
   ·refine⟨.inl q,fun e=>?_⟩
    have:=hl x q
    omega
   ·obtain⟨q1,q2⟩:=List.mem_filter.1 q
    refine⟨.inr ⟨j,q1⟩,fun e=>?_⟩
    subst e
    have:=Wg n2 q1 hi rfl
    injection this with this _
    simp [this]at q2
 ·obtain⟨k1,k2⟩:=t.kept x hx hx2
  refine⟨fun q=>?_,k2⟩
  rcases q with q | q
  ·exact k1 q
  ·omega
 ·rcases hx with q | q
  ·exact t.old x q
  ·exact .inl (by rw [q];exact hb)
def ft (P:Program) (ops:Array Oper) (st:Ag T) (F:Fr) (a:Act) (p:Nat×Nat):Prop:=
 ∃ o d x arr Tt,ops[p.1]? =some o∧dn o=true∧o.dst=some d∧fj P st o=some x∧la x arr Tt∧F.w0.heap[p.2]? =some (.cells arr Tt (0,0))∧ ¬F.old p.2∧a.tmps.getD d Go.undef=Wf x p.2
theorem ft.move {P:Program} {ops:Array Oper} {st st':Ag T} {F:Fr} {a a':Act} {p:Nat×Nat} (h:ft P ops st F a p) (ha: ∀ d o,ops[p.1]? =some o→o.dst=some d→a'.tmps.getD d Go.undef=a.tmps.getD d Go.undef):ft P ops st' F a' p:=by
 obtain⟨o,d,x,arr,Tt,h1,h2,h3,h4,h5,h6,h7,h8⟩:=h
 exact⟨o,d,x,arr,Tt,h1,h2,h3,by rw [NP h2 (st':=st)];exact h4,h5,h6,h7,by rw [ha d o h1 h3];exact h8⟩
theorem mG {P:Program} {ops:Array Oper} {st:Ag T} {F:Fr} {a:Act} {p:Nat×Nat} (h:ft P ops st F a p) {o:Oper} (ho:ops[p.1]? =some o):C4 o=0:=by
 obtain⟨o',_,_,_,_,h1,h2,_⟩:=h
 rw [ho]at h1;injection h1 with h1;subst h1
 exact(Ki h2).2.2
theorem Ey {ops:Array Oper} (h:R3 ops=true) {i j:Nat} {o o':Oper} {d e:Nat} (hi:ops[i]? =some o) (hj:ops[j]? =some o') (hne:i ≠ j) (hd:o.dst=some d) (he:o'.dst=some e):d ≠ e:=by
 simp only [R3,List.all_eq_true,List.mem_range]at h
 have:=h i (Array.getElem?_eq_some_iff.1 hi).1 j (Array.getElem?_eq_some_iff.1 hj).1
 simp only [hi,hj,hd,he,Bool.or_eq_true,Nat.beq_eq,Bool.not_eq_true']at this
 rcases this with q | q
 ·exact absurd q hne
 ·intro e';subst e';simp at q
def iL (n:Nat) (v:List Bool):List Nat:=(List.range n).filter fun k=> !bv v k
theorem fu: ∀ {l l':List Nat},l.Nodup→(∀ x∈l,x∈l')→l.length≤l'.length
 | [],_,_,_=>Nat.zero_le _
 | a::l,l',h,hs=>by
   obtain⟨h1,h2⟩:=List.nodup_cons.1 h
   have ha:=hs a (by simp)
   have:=fu (l:=l) (l':=l'.erase a) h2 fun x hx=>(List.mem_erase_of_ne (by intro e;subst e;exact h1 hx)).2 (hs x (by simp [hx]))
   rw [List.length_erase_of_mem ha]at this
   have:=List.length_pos_of_mem ha
   simp only [List.length_cons];omega
theorem lc (n:Nat) (v:List Bool):(iL n v).Nodup :=List.Sublist.nodup List.filter_sublist List.nodup_range
theorem Qc {n:Nat} {v:List Bool} {i:Nat} (hv:v.length=n) (hi:i<n) (hu:bv v i=false):(iL n (v.set i true)).length +1≤(iL n v).length :=by
 have:=fu (l:=i::iL n (v.set i true)) (l':=iL n v) (List.nodup_cons.2 ⟨fun h=>?_,lc _ _⟩) fun x hx=>?_
 ·simpa using this
 ·have:=(List.mem_filter.1 h).2
  rw [CM (by omega)]at this
  simp at this
 ·rcases List.mem_cons.1 hx with rfl | hx
  ·exact List.mem_filter.2 ⟨by simpa using hi,by rw [hu];rfl⟩
  ·obtain⟨h1,h2⟩:=List.mem_filter.1 hx
   rw [CM (by omega)]at h2
   exact List.mem_filter.2 ⟨h1,by simp only [Bool.not_eq_true',Bool.or_eq_false_iff]at h2 ⊢;exact h2.2⟩
section
variable {H:At T} {P:Program} {I:World→Prop} {Γ:List (CE T P I)} {rec:cO T} {st:Ag T} {ops:Array Oper} {pr:List (List Nat)} {lz:List Nat} {F0:Fr}
theorem lf (hrec:XY P I rec) (hw:AB H st) {o:Oper} {h:HA} {R':Type} {K:Ag T→Option R'} {r:R'} (hr:nY Γ rec ops o st h R' K=some r) {PK:St→Prop}
 (hK: ∀ H' st',Nx H st H' st'→K st'=some r→PK st'.toSt):Uh P I ops o st.toSt (fun s=> ∃ s',Wk s s'∧PK s'):=by
 have refl: ∀ s:St,Wk s s:=fun s=>Wk.less (Ck.refl s)
 unfold nY at hr
 split at hr
 ·obtain⟨st',⟨⟨H1,n1⟩,_,w1⟩,hr⟩:=VW hw o R' _ r hr
  exact w1 _ ⟨_,refl _,hK H1 st' n1 hr⟩
 ·obtain⟨st',⟨⟨H1,n1⟩,_,w1⟩,hr⟩:=a6 hw o _ R' _ r hr
  exact w1 _ ⟨_,refl _,hK H1 st' n1 hr⟩
 ·obtain⟨g1,g2⟩:=MJ (PK:=fun s=> ∃ s',Wk s s'∧PK s') hrec hw hr fun H' s n _ q=>⟨_,refl _,hK H' s n q⟩
  simp only [Uh,g1]
  exact .inl g2
 ·rename_i sh h
  unfold jn at hr
  obtain⟨g1,g2⟩:=MJ (PK:=fun s=> ∃ s',Wk s s'∧PK s') hrec hw hr fun H' s n _ q=>by
   split at q
   ·rename_i v hg
    dsimp only at q
    split at q
    ·rename_i s' hi
     obtain⟨H2,n2⟩:=Gq.inst_nx hw (DF sh.ts v) hi
     exact⟨s'.toSt,Gq.gen_ok hw n hg hi,hK H2 s' n2 q⟩
    ·cases q
   ·cases q
  simp only [Uh,g1]
  exact .inl g2
 ·cases hr
theorem mH {o:Oper} (hb:fp o=true) {s:St} (h1:(ef P st.toSt o).1) (h2:Ck (ef P st.toSt o).2 s) {F:Fr} {a:Act} {w:World} {G:Ay} (hR:R F st.toSt a w G) {Q:Exit→Act→World→Prop}:
 o.wp P a w (fun a' w'=>Cv w w'∧ ∃ G',R F s a' w' G') Q:=by
 unfold fp at hb
 split at hb
 ·rename_i t len ps d hop hg hd
  obtain⟨dst,op,ty,pos,aft,gd⟩:=o
  simp only at hop hg hd
  subst hop hg hd
  have h1':(Bh P st.toSt d t len ps.toList).1:=h1
  have h2':Ck (Bh P st.toSt d t len ps.toList).2 s:=h2
  obtain⟨r,w',G',q1,q2⟩:=HR hR h1'
  have:=Nv hR h1' q1
  unfold Oper.wp
  have hrun:(execOp a.eval ⟨some d, .buildSlice t len ps,ty,pos,aft,none⟩).run P w= .ok (.value r) w':=by
   simp [execOp,q1]
  rw [hrun]
  exact⟨this,G',q2.less h2'⟩
 ·cases hb
structure Fy (P:Program) (ops:Array Oper) (pr:List (List Nat)) (F0:Fr) (v:List Bool) (st:Ag T) (m:Nat) (L:List Bool) (D:List (Nat×Nat)) (F:Fr) (a:Act) (w:World) (G:Ay):Prop where
 hv:v.length=ops.size
 hL:L.length=ops.size
 hb: ∀ k,bv L k=(bv v k||D.any fun p=>p.1==k)
 hdc:eD pr L.toArray
 n1:(D.map (·.1)).Nodup
 n2:(D.map (·.2)).Nodup
 hD: ∀ p∈D,p.1<ops.size∧bv v p.1=false∧ft P ops st F a p
 ht:H7 F0 F D
 hc:(iL ops.size v).length ≤m+D.length
 hR:R F st.toSt a w G
structure Fx (P:Program) (ops:Array Oper) (pr:List (List Nat)) (lz:List Nat) (F0:Fr) (v:List Bool) (st:Ag T) (m:Nat) (L:List Bool) (D:List (Nat×Nat)) (F:Fr) (a:Act) (w:World) (G:Ay):Prop extends Fy P ops pr F0 v st m L D F a w G where
 hS:S5 P ops pr lz L.toArray a w
variable {v L:List Bool} {m:Nat} {D:List (Nat×Nat)} {F:Fr} {a:Act} {w:World} {G:Ay}
theorem H8 {D:List (Nat×Nat)} {k:Nat}:(D.any fun p=>p.1==k)=true↔ ∃ b,(k,b)∈D:=by
 simp only [List.any_eq_true,beq_iff_eq]
 constructor
 ·rintro⟨⟨x,b⟩,h,rfl⟩;exact⟨b,h⟩
 ·rintro⟨b,h⟩;exact⟨_,h,rfl⟩
theorem Fx.pos (h:Fx P ops pr lz F0 v st m L D F a w G) {i:Nat} (hi:i<ops.size) (hu:bv v i=false) (hn: ∀ b,(i,b)∉D):1≤m:=by
 have:=fu (l:=i::D.map (·.1)) (l':=iL ops.size v) (List.nodup_cons.2 ⟨fun q=>?_,h.n1⟩) fun x hx=>?_
 ·have h2:=h.hc
  simp only [List.length_cons,List.length_map]at this
  omega
 ·obtain⟨p,hp,rfl⟩:=List.mem_map.1 q
  exact hn p.2 hp
 ·rcases List.mem_cons.1 hx with rfl | hx
  ·exact List.mem_filter.2 ⟨by simpa using hi,by rw [hu];rfl⟩
  ·obtain⟨p,hp,rfl⟩:=List.mem_map.1 hx
   obtain⟨h1,h2,_⟩:=h.hD p hp
   exact List.mem_filter.2 ⟨by simpa using h1,by rw [h2];rfl⟩
theorem Fx.rdy (h:Fx P ops pr lz F0 v st m L D F a w G) {i:Nat} (hi:i<ops.size) (hr:ML ops v i=true) (hn: ∀ b,(i,b)∉D):i∈Region.ready .any ops L.toArray:=by
 rw [X1 h.hL]
 simp only [ML,Bool.and_eq_true,Bool.not_eq_true',List.all_eq_true]at hr
 refine List.mem_filter.2 ⟨by simpa using hi,?_⟩
 simp only [ML,Bool.and_eq_true,Bool.not_eq_true',List.all_eq_true]
 refine⟨?_,fun x hx=>by rw [h.hb,hr.2 x hx];rfl⟩
 rw [h.hb,hr.1,Bool.false_or]
 cases hq:D.any fun p=>p.1==i with
 | false=>rfl
 | true=>
   obtain⟨b,hb⟩:=H8.1 hq
   exact absurd hb (hn b)
theorem Fx.rdyL (hp:VK ops pr=true) (h:Fx P ops pr lz F0 v st m L D F a w G) {j:Nat} (hj:j∈Region.ready .any ops L.toArray):j<ops.size∧bv L j=false∧bv v j=false∧(∀ b,(j,b)∉D)∧ ∀ x∈pr.getD j [],bv L x=true:=by
 obtain⟨h1,h2,h3⟩:=EN hp h.hdc hj
 have h4:bv L j=false:=by rw [←E9];exact HY h2
 have h5:=h4
 rw [h.hb,Bool.or_eq_false_iff]at h5
 refine⟨h1,h4,h5.1,fun b hb=>?_,fun x hx=>by rw [←E9];exact h3 x hx⟩
 have:=H8.2 ⟨b,hb⟩
 rw [h5.2]at this;cases this
theorem R.reput {st:St} (h:R F st a w G) {d:Nat} {u:Value} (hu:Ab w G (st.tm.getD d .undef) u):R F st (a.put (some d) u) w G:=by
 have:=h.put (d:=some d) hu
 have e:st.put (some d) (st.tm.getD d .undef)=st:=by
  simp only [St.put]
  congr 1
  apply List.ext_getElem?
  intro k
  rw [List.getElem?_set]
  split
  ·rename_i q
   subst q
   split
   ·rename_i hl
    rw [List.getD_eq_getElem?_getD,List.getElem?_eq_getElem hl];rfl
   ·rename_i hl
    rw [List.getElem?_eq_none (by omega)]
  ·rfl
 rwa [e]at this
theorem Fy.up1 (hst:Nu ops pr=true) (hdn:R3 ops=true) (hlz:LH ops lz=true) (hw:AB H st) {pd:List KW} (hpd: ∀ q∈pd,Pq P ops lz H st.nx q) (hck:Pa ops pr lz v pd st=true) (h:Fy P ops pr F0 v st m L D F a w G) {a':Act} (hu:mZ P ops pr lz L.toArray w a a'):Fy P ops pr F0 v st m L D F a' w G:=by
 obtain⟨p,o,d,u,h1,h2,h3,h4,h5,h6,rfl⟩:=hu
 obtain⟨k1,k2⟩:=GU hlz h1 h2
 have hcN:J9 ops p=1:=by unfold J9;rw [h2];exact k1
 have nmk: ∀ q,(p,q)∉D:=fun q hq=>by
  obtain⟨_,_,o',_,_,_,_,r1,r2,_⟩:=h.hD _ hq
  simp only at r1
  rw [h2]at r1;injection r1 with r1;subst r1
  have:=(Ki r2).2.2
  omega
 have hvp:bv v p=true:=by
  rw [E9,h.hb,Bool.or_eq_true]at h4
  rcases h4 with q | q
  ·exact q
  ·obtain⟨b,hb⟩:=List.any_eq_true.1 q
   have e:b.1=p:=by simpa using hb.2
   exact absurd hb.1 (by rw [show b=(p,b.2) by rw [←e]];exact nmk _)
 simp only [Pa,List.all_eq_true,Bool.or_eq_true,Bool.not_eq_true']at hck
 rcases hck p h1 with q | q | q
 ·rw [hvp]at q;cases q
 ·exfalso
  refine h5 ?_
  simp only [fl,List.any_eq_true,List.mem_range,Bool.and_eq_true,Nat.beq_eq,Eh]at q
  obtain⟨k,_,k1,k2,k3⟩:=q
  exact⟨k,by rw [E9,h.hb,k1];rfl,k2,k3⟩
 ·simp only [List.any_eq_true,Bool.and_eq_true,Nat.beq_eq]at q
  obtain⟨q0,hq0,e0,hok⟩:=q
  subst e0
  obtain⟨r1,x,_,r2,r3⟩:=Qb hw (hpd q0 hq0) hok h2 h.hR
  rw [h3]at r1;injection r1 with r1;subst r1
  rw [r3 w (Cv.refl w)]at h6
  have hxu:x=u:=by simpa using h6
  subst hxu
  exact {h with
   hD:=fun p' hp'=>by
    obtain⟨s1,s2,s3⟩:=h.hD p' hp'
    have hne:p'.1 ≠ q0.i:=fun e=>nmk p'.2 (by rw [←e];exact hp')
    refine⟨s1,s2,s3.move fun d' o' ho' hd'=>?_⟩
    exact Dz (fun e he=>by injection he with he;subst he;exact Ey hdn h2 ho' (Ne.symm hne) h3 hd')
   hR:=h.hR.reput r2}
theorem Fx.ups (hst:Nu ops pr=true) (hdn:R3 ops=true) (hlz:LH ops lz=true) (hw:AB H st) {pd:List KW} (hpd: ∀ q∈pd,Pq P ops lz H st.nx q) (hck:Pa ops pr lz v pd st=true) (h:Fx P ops pr lz F0 v st m L D F a w G) {a':Act} (hu:Ups P ops pr lz L.toArray w a a'):Fx P ops pr lz F0 v st m L D F a' w G:=by
 induction hu with
 | refl=>exact h
 | step _ h1 ih=>exact {toFy:=ih.toFy.up1 hst hdn hlz hw hpd hck h1,hS:=ih.hS.up1 hst hlz h1}
theorem R6 {il:Hl} {pd:List KW} {R':Type} {K:Ag T→Option R'} {r:R'}: ∀ {n:Nat},IR Γ rec ops pr lz il n v pd st R' K=some r→Pa ops pr lz v pd st=true
 | 0,h=>by
   simp only [IR]at h
   split at h
   ·cases h
   ·assumption
 | n+1,h=>by
   simp only [IR]at h
   split at h
   ·cases h
   ·assumption
theorem BD (L:List Bool) (i:Nat):L.toArray.setIfInBounds i true=(L.set i true).toArray :=by simp
theorem Fx.make (hst:Nu ops pr=true) (hdn:R3 ops=true) (hlz:LH ops lz=true) {pd:List KW} (hpd: ∀ q∈pd,Pq P ops lz H st.nx q) (hck:Pa ops pr lz v pd st=true) (hi0:fg F0) (hw:AB H st) (hma:R4 P ops st=true) (hun:nX ops v st=true) (h:Fx P ops pr lz F0 v st (m+1) L D F a w G) {j:Nat} (hj:j∈Region.ready .any ops L.toArray) (hm:ZB ops j=true) {Q:Exit→Act→World→Prop}
 (hK: ∀ L D F a w' G,Fx P ops pr lz F0 v st m L D F a w' G→(j,w.heap.size)∈D→Dj P ops Q pr lz m L.toArray a w'):
 wpOp P ops Q j (fun a' w'=> ∀ a'',Ups P ops pr lz (L.toArray.setIfInBounds j true) w' a' a''→S5 P ops pr lz (L.toArray.setIfInBounds j true) a'' w'∧Dj P ops Q pr lz m (L.toArray.setIfInBounds j true) a'' w') a w:=by
 obtain⟨hns,hp,hstat⟩:=FA hst
 obtain⟨hjl,hju,hjv,hjD,_⟩:=h.rdyL hp hj
 unfold ZB at hm
 have hoj:ops[j]? =some ops[j]:=Array.getElem?_eq_getElem hjl
 generalize ops[j]=o at hoj
 rw [hoj]at hm
 simp only at hm
 obtain⟨hg,⟨d,hd⟩,hc⟩:=Ki hm
 obtain⟨x,hx⟩: ∃ x,fj P st o=some x:=by
  simp only [R4,List.all_eq_true,Bool.or_eq_true,Bool.not_eq_true']at hma
  have:=hma o (by have:=Array.mem_of_getElem? hoj;simpa using this)
  rw [hm]at this
  rcases this with q | q
  ·cases q
  ·exact Option.isSome_iff_exists.1 q
 have hud:st.get d= .u ∧d<st.m:=by
  simp only [nX,List.all_eq_true,List.mem_range,Bool.or_eq_true]at hun
  have:=hun j hjl
  rw [hjv,hoj]at this
  simp only [hm,hd,Bool.not_true,Bool.false_or,Bool.and_eq_true,Nat.blt_eq]at this
  rcases this with q | ⟨q1,q2⟩
  ·cases q
  ·refine⟨?_,q2⟩
   unfold oB at q1
   split at q1
   ·assumption
   ·cases q1
 obtain⟨arr,Tt,hrun,hxo⟩:=iK hw hx h.hR
 have hsz:a.tmps.size=st.m:=by rw [h.hR.size];exact Bf _ _
 refine Zm hst hlz hoj hc h.hdc hj h.hS (K:=fun a' w'=>Cv w w'∧ ∃ D' F' G',Fy P ops pr F0 v st m (L.set j true) D' F' a' w' G'∧(j,w.heap.size)∈D') ?_ ?_ ?_ ?_
 ·rw [EJ hg,if_pos rfl]
  refine AM hrun ?_
  rw [hd]
  refine⟨GY _ _,?_⟩
  have hsm:=GY w (.cells arr Tt)
  have t':=h.ht.take h.hR (HO w (.cells arr Tt)) hsm j
  obtain⟨G1,hR1⟩:=h.hR.taken (HO w (.cells arr Tt)) hsm (b:=w.heap.size) rfl (by simp [C2]) (t'.invW hi0 fun x hx hx2=>(t'.kept x hx hx2).1) (d:=d) (v:=Wf x w.heap.size) (by rw [st.get_toSt,hud.1];simp only [DV.toV])
  refine⟨(j,w.heap.size)::D,_,G1,⟨h.hv,by simpa using h.hL,fun k=>?_,by rw [←BD];exact h.hdc.set hp hj,?_,?_,fun p hp'=>?_,t',?_,hR1⟩,List.mem_cons_self⟩
  ·rw [CM (by rw [h.hL];exact hjl),h.hb,List.any_cons]
   simp only
   rw [show (k==j)=(j==k) by rw [Bool.beq_comm]]
   cases bv v k<;>simp
  ·rw [List.map_cons]
   refine List.nodup_cons.2 ⟨fun q=>?_,h.n1⟩
   obtain⟨p,hp',e⟩:=List.mem_map.1 q
   have e:p.1=j:=e
   exact hjD p.2 (by rw [←e];exact hp')
  ·rw [List.map_cons]
   refine List.nodup_cons.2 ⟨fun q=>?_,h.n2⟩
   obtain⟨p,hp',e⟩:=List.mem_map.1 q
   have e:p.2=w.heap.size:=e
   have hav:F.av p.2:=(h.ht.av _).2 (.inr ⟨p.1,hp'⟩)
   have:=h.hR.avlt _ hav
   have:=h.hR.hsize
   omega
  ·rcases List.mem_cons.1 hp' with rfl | hp'
   ·refine⟨hjl,hjv,o,d,x,arr,Tt,hoj,hm,hd,hx,hxo,heap_alloc_new w _,fun⟨i,hi⟩=>?_,?_⟩
    ·have:=h.hR.lt i _ hi;omega
    ·have:d<a.tmps.size:=by rw [hsz];exact hud.2
     simp [Act.put,Array.getD_eq_getD_getElem?,this]
   ·obtain⟨q1,q2,o',d',x',arr',Tt',r1,r2,r3,r4,r5,r6,r7,r8⟩:=h.hD p hp'
    have hav:F.av p.2:=(h.ht.av _).2 (.inr ⟨p.1,hp'⟩)
    refine⟨q1,q2,o',d',x',arr',Tt',r1,r2,r3,r4,r5,?_,fun⟨i,hi⟩=>h.hR.unnamed hav i hi,?_⟩
    ·show (w.alloc (.cells arr Tt)).heap[p.2]? =_
     have hlt:=h.hR.avlt _ hav
     rw [hsm.block p.2 (Nat.lt_of_lt_of_le hlt h.hR.hsize),h.hR.ext p.2 hlt r7]
     exact r6
    ·have hne:p.1 ≠ j:=fun e=>hjD p.2 (by rw [←e];exact hp')
     rw [←r8]
     exact Dz (x:=some d) (fun e he=>by injection he with he;subst he;exact Ey hdn hoj r1 (Ne.symm hne) hd r3)
  ·have:=h.hc
   simp only [List.length_cons];omega
 ·intro a' w' ⟨hsm,_⟩ p op hop hcp hpl hpf he1 he2 hW d hd
  obtain⟨u,m1,m2⟩:=hW d hd
  refine⟨u,by rw [he2 d hd];exact m1,fun w1 hw1=>?_⟩
  have h1:=hw1.resolve_left (by rw [hcp];omega)
  rw [he1 w1 (hsm.trans h1)]
  exact m2 w1 (.inr (hsm.trans h1))
 ·intro a' w' a'' ⟨hsm,D',F',G',hf,hj'⟩ hu
  rw [BD]at hu
  exact⟨hsm,D',F',G',hf.up1 hst hdn hlz hw hpd hck hu,hj'⟩
 ·intro a' w' ⟨hsm,D',F',G',hf,hj'⟩ _ hS'
  rw [BD]at hS' ⊢
  exact hK _ D' F' a' w' G' {toFy:=hf,hS:=hS'} hj'
theorem Fx.adopt (hi0:fg F0) (hl0: ∀ x,F0.av x→x<F0.w0.heap.size) (hw:AB H st) (h:Fx P ops pr lz F0 v st m L D F a w G) {i b d:Nat} {o:Oper} {x:DX T} {s:Ag T} (hi:(i,b)∈D) (ho:ops[i]? =some o) (hd:o.dst=some d) (hx:fj P st o=some x) (hs:st.new (d::st.pre) x=some s):
 ∃ G',Fx P ops pr lz F0 (v.set i true) (s.put (some d) (.c (.c (RZ x (d::st.pre))))) m L (D.filter fun p=>p.1 != i) (F.give b) a w G':=by
 obtain⟨hil,hiv,o',d',x',arr,Tt,r1,r2,r3,r4,r5,r6,r7,r8⟩:=h.hD _ hi
 simp only at hil hiv r1 r6 r7 r8
 rw [ho]at r1;injection r1 with r1;subst r1
 rw [hd]at r3;injection r3 with r3;subst r3
 rw [hx]at r4;injection r4 with r4;subst r4
 have t':=h.ht.give hi h.n1 h.n2 hl0
 have hav:F.av b:=(h.ht.av _).2 (.inr ⟨i,hi⟩)
 have hh:w.heap[b]? =some (.cells arr Tt (0,0)):=by rw [h.hR.ext b (h.hR.avlt b hav) r7];exact r6
 obtain⟨G',hR'⟩:=cS hw r5 h.hR hav (t'.invW hi0 fun x hx hx2=>(t'.kept x hx hx2).1) hh r8 hs
 refine⟨G',⟨by simpa using h.hv,h.hL,fun k=>?_,h.hdc,List.Sublist.nodup (List.Sublist.map _ List.filter_sublist) h.n1,List.Sublist.nodup (List.Sublist.map _ List.filter_sublist) h.n2,fun p hp=>?_,t',?_,hR'⟩,h.hS⟩
 ·rw [h.hb,CM (by rw [h.hv];exact hil)]
  by_cases hk:k=i
  ·subst hk
   rw [H8.2 ⟨b,hi⟩];simp
  ·have e1:(k==i)=false:=by simpa using hk
   rw [e1,Bool.false_or]
   congr 1
   rw [Bool.eq_iff_iff,H8,H8]
   constructor
   ·rintro⟨c,hc⟩;exact⟨c,List.mem_filter.2 ⟨hc,by simpa using hk⟩⟩
   ·rintro⟨c,hc⟩;exact⟨c,(List.mem_filter.1 hc).1⟩
 ·obtain⟨hp1,hp2⟩:=List.mem_filter.1 hp
  have hne:p.1 ≠ i:=by simpa using hp2
  obtain⟨q1,q2,o',d',x',arr',Tt',s1,s2,s3,s4,s5,s6,s7,s8⟩:=h.hD p hp1
  refine⟨q1,by rw [CM (by rw [h.hv];exact hil),q2];simpa using hne,o',d',x',arr',Tt',s1,s2,s3,by rw [NP s2 (st':=st)];exact s4,s5,s6,fun q=>?_,s8⟩
  rcases q with q | q
  ·exact s7 q
  ·have:p=(i,b):=Wg h.n2 hp1 hi q
   exact hne (by rw [this])
 ·have h1:=Qc h.hv hil hiv
  have h2:=h.hc
  have h3:(D.filter fun p=>p.1 != i).length +1=D.length:=by
   have key: ∀ l:List (Nat×Nat),(l.map (·.1)).Nodup →(i,b)∈l→(l.filter fun p=>p.1 != i).length +1=l.length:=by
    intro l
    induction l with
    | nil=>intro _ h;cases h
    | cons p l ih=>
      intro hn hm
      rw [List.map_cons]at hn
      obtain⟨n1,n2⟩:=List.nodup_cons.1 hn
      rcases List.mem_cons.1 hm with e | hm
      ·subst e
       have:(l.filter fun p=>p.1 != i)=l:=List.filter_eq_self.2 fun q hq=>by
        have:q.1 ≠ i:=fun e=>n1 (List.mem_map.2 ⟨q,hq,e⟩)
        simpa using this
       rw [List.filter_cons]
       simp [this]
      ·have hpi:p.1 ≠ i:=fun e=>n1 (by rw [e];exact List.mem_map.2 ⟨(i,b),hm,rfl⟩)
       rw [List.filter_cons,if_pos (by simpa using hpi),List.length_cons,ih n2 hm,List.length_cons]
   exact key D h.n1 hi
  omega
theorem ZC {v:List Bool} {i:Nat} (h:fk ops v=some i):i<ops.size∧ML ops v i=true:=by
 unfold fk at h
 split at h
 ·rename_i j hj
  injection h with h;subst h
  have:j∈(List.range ops.size).filter fun i=>ML ops v i&& !ZB ops i:=by rw [hj];simp
  obtain⟨h1,h2⟩:=List.mem_filter.1 this
  simp only [Bool.and_eq_true]at h2
  exact⟨by simpa using h1,h2.1⟩
 ·obtain⟨h1,h2⟩:=X2 h
  simp only [Bool.and_eq_true]at h2
  exact⟨by simpa using h1,h2.1⟩
 ·cases h
theorem ZD {v:List Bool} {i:Nat} (h:jG ops v=some i):i<ops.size∧ML ops v i=true∧J9 ops i ≠ 0:=by
 obtain⟨h1,h2⟩:=X2 h
 simp only [Bool.and_eq_true,Bool.not_eq_true']at h2
 exact⟨by simpa using h1,h2.1,fun e=>by have:=h2.2;rw [e]at this;simp at this⟩
theorem a8 {v:List Bool} {i:Nat} (h:ML ops v i=true):bv v i=false:=by
 simp only [ML,Bool.and_eq_true,Bool.not_eq_true']at h;exact h.1
theorem ba {i:Nat} (h:ZB ops i=true):J9 ops i=0:=by
 unfold ZB at h
 split at h
 ·rename_i o ho
  unfold J9;rw [ho];exact(Ki h).2.2
 ·cases h
theorem Ga {P:Program} {st st':Ag T} (h:R4 P ops st=true):R4 P ops st'=true:=by
 simp only [R4,List.all_eq_true,Bool.or_eq_true,Bool.not_eq_true']at h ⊢
 intro o ho
 rcases h o ho with q | q
 ·exact .inl q
 ·cases hm:dn o with
  | false=>exact .inl rfl
  | true=>right;rw [NP hm (st':=st)];exact q
theorem Fx.other (hp:VK ops pr=true) (h:Fx P ops pr lz F0 v st m L D F a w G) {i:Nat} (hok:lb ops pr v i=true) (hiD: ∀ b,(i,b)∉D) {j:Nat} (hj:j∈Region.ready .any ops L.toArray) (hne:j ≠ i):ZB ops j=true:=by
 obtain⟨h1,h2,h3,h4,h5⟩:=h.rdyL hp hj
 simp only [lb,List.all_eq_true,List.mem_range,Bool.or_eq_true,Nat.beq_eq,List.any_eq_true,Bool.and_eq_true,Bool.not_eq_true']at hok
 rcases hok j h1 with q | q | q | ⟨x,hx,q1,q2⟩
 ·rw [h3]at q;cases q
 ·exact absurd q hne
 ·exact q
 ·exfalso
  have:=h5 x hx
  rw [h.hb,q1,Bool.false_or]at this
  obtain⟨b,hb⟩:=H8.1 this
  rcases q2 with q2 | q2
  ·obtain⟨_,_,o,d,y,arr,Tt,r1,r2,_⟩:=h.hD _ hb
   unfold ZB at q2
   simp only at r1
   rw [r1]at q2
   have q2:dn o=false:=q2
   rw [r2]at q2;cases q2
  ·subst q2;exact hiD b hb
theorem MM (hst:Nu ops pr=true) (hdn:R3 ops=true) (hlz:LH ops lz=true) (hrec:XY P I rec) (il:Hl) (hI0:F0.I=I) (hi0:fg F0) (hd0: ∀ x,F0.old x→ ¬F0.av x) (hl0: ∀ x,F0.av x→x<F0.w0.heap.size) {R':Type} {K:Ag T→Option R'} {r:R'} {PK:St→Prop}:
 ∀ (n:Nat) (v:List Bool) (pd:List KW) (st:Ag T) (H:At T),AB H st→(∀ q∈pd,Pq P ops lz H st.nx q)→R4 P ops st=true→IR Γ rec ops pr lz il n v pd st R' K=some r→(∀ H' st',Nx H st H' st'→K st'=some r→PK st'.toSt)→
 ∀ (m:Nat) (L:List Bool) (D:List (Nat×Nat)) (F:Fr) (a:Act) (w:World) (G:Ay),Fx P ops pr lz F0 v st m L D F a w G→Dj P ops (fun e a' w'=>e= .normal ∧ ∃ s G',PK s∧R F0 s a' w' G') pr lz m L.toArray a w
 | 0,v,pd,st,H,hw,hpd,hma,hr,hK,m,L,D,F,a,w,G,h=>by
   simp only [IR]at hr
   split at hr
   ·cases hr
   split at hr
   ·rename_i hall
    simp only [List.all_eq_true,List.mem_range]at hall
    have hD:D=[]:=by
     cases D with
     | nil=>rfl
     | cons p D=>
       obtain⟨q1,q2,_⟩:=h.hD p (by simp)
       rw [hall p.1 q1]at q2;cases q2
    subst hD
    obtain⟨s,⟨⟨H1,n1⟩,_,w1⟩,hr⟩:=E8 ops.size il hw R' _ r hr
    obtain⟨G',hR'⟩:=w1 F a w G h.hR
    have hQ:(fun(e:Exit) (a':Act) (w':World)=>e= .normal ∧ ∃ s G',PK s∧R F0 s a' w' G') .normal a w:=⟨rfl,s.toSt,G',hK H1 s n1 hr,h.ht.back hi0 hd0 hl0 hR'⟩
    have hrd:Region.ready .any ops L.toArray=[]:=by
     rw [X1 h.hL,List.filter_eq_nil_iff]
     intro i hi
     have:bv L i=true:=by rw [h.hb,hall i (by simpa using hi)];rfl
     simp [ML,this]
    cases m with
    | zero=>exact⟨hrd,hQ⟩
    | succ m=>exact⟨fun _=>hQ,fun i hi=>by rw [hrd]at hi;cases hi⟩
   ·cases hr
 | n+1,v,pd,st,H,hw,hpd,hma,hr,hK,m,L,D,F,a,w,G,h=>by
   obtain⟨hns,hp,hstat⟩:=FA hst
   have hQ: ∀ c a w, ¬(fun(e:Exit) (a':Act) (w':World)=>e= .normal ∧ ∃ s G',PK s∧R F0 s a' w' G') (.panic c) a w:=fun c a w ⟨h,_⟩=>by cases h
   have hI:F.I=I:=h.ht.inv0.trans hI0
   have hm:a.tmps.size=st.m:=by rw [h.hR.size];exact Bf _ _
   have hck:=R6 hr
   simp only [IR]at hr
   split at hr
   ·cases hr
   split at hr
   ·rename_i i hpick
    obtain⟨hil,hrdv,hcN⟩:=ZD hpick
    have hiu:=a8 hrdv
    have hiD: ∀ b,(i,b)∉D:=fun b hb=>by
     obtain⟨_,_,o,d,x,arr,Tt,r1,r2,_⟩:=h.hD _ hb
     exact hcN (ba (by unfold ZB;simp only at r1;rw [r1];exact r2))
    have hrdy:=h.rdy hil hrdv hiD
    have hdc':=h.hdc.set hp hrdy
    rw [BD]at hdc'
    obtain⟨m',rfl⟩: ∃ m',m=m'+1:=⟨m - 1,by have:=h.pos hil hiu hiD;omega⟩
    split at hr
    ·rename_i o hi
     have hc:C4 o ≠ 0:=by unfold J9 at hcN;rw [hi]at hcN;exact hcN
     obtain⟨hgd,d,hd⟩:=II hc
     have hdl:d∉o.looksAt ops:=(hstat i o hi hc d hd).1
     have hnsel:=fun cs b=>Region.noSelect_spec hns i o cs b hi
     have go: ∀ (st':Ag T) (H':At T) (pd':List KW),fq o st=true→Nx H st H' st'→(∀ q∈pd',Pq P ops lz H' st'.nx q)→(∃ u G',(∀ w',(C4 o=2∨Cv w w')→(execOp a.eval o).run P w'= .ok (.value u) w')∧R F st'.toSt (a.put o.dst u) w G')→
      IR Γ rec ops pr lz il n (v.set i true) pd' st' R' K=some r→Dj P ops (fun e a' w'=>e= .normal ∧ ∃ s G',PK s∧R F0 s a' w' G') pr lz (m'+1) L.toArray a w:=by
      intro st' H' pd' hlt hn hpd' ⟨u,G',hrun,hR'⟩ hq
      have hW:ct P (i∈lz) o (a.put o.dst u) w:=by
       intro d' hd'
       refine⟨_, .inr rfl,fun w' hw'=>?_⟩
       rw [hd]at hd';injection hd' with hd';subst hd'
       rw [execOp_put o hnsel a o.dst u (fun e he=>by rw [hd]at he;injection he with he;exact he▸hdl),hrun w' hw',hd]
       unfold fq at hlt
       rw [hd]at hlt
       have hlt:d<st.m:=by simpa using hlt
       have:d<a.tmps.size:=by rw [hm];exact hlt
       simp [Act.put,Array.getD_eq_getD_getElem?,this]
      have hS':=S5.take hst hi hc h.hdc hrdy h.hS hW
      refine kx (v:=u) hst hlz hi hc hQ m' L.toArray a w h.hdc hrdy ?_
      rw [BD]at hS' ⊢
      have hfx:Fx P ops pr lz F0 (v.set i true) st' m' (L.set i true) D F (a.put o.dst u) w G':=?_
      ·intro a'' hu
       have hf2:=hfx.ups hst hdn hlz hn.ok hpd' (R6 hq) hu
       exact⟨hf2.hS,MM hst hdn hlz hrec il hI0 hi0 hd0 hl0 n (v.set i true) pd' st' H' hn.ok hpd' (Ga hma) hq (fun H'' s n' q=>hK H'' s (hn.trans n') q) m' _ D F _ w G' hf2⟩
      refine⟨⟨by simpa using h.hv,by simpa using h.hL,fun k=>?_,hdc',h.n1,h.n2,fun p hp'=>?_,h.ht,?_,hR'⟩,hS'⟩
      ·rw [CM (by rw [h.hL];exact hil),CM (by rw [h.hv];exact hil),h.hb,Bool.or_assoc]
      ·obtain⟨q1,q2,q3⟩:=h.hD p hp'
       have hne:p.1 ≠ i:=fun e=>hiD p.2 (by rw [←e];exact hp')
       refine⟨q1,by rw [CM (by rw [h.hv];exact hil),q2];simpa using hne,q3.move fun d' o' ho' hd'=>?_⟩
       exact Dz (fun e he=>Ey hdn hi ho' (Ne.symm hne) he hd')
      ·have h1:=Qc h.hv hil hiu
       have h2:=h.hc
       omega
     have pdx: ∀ {st':Ag T} {H':At T},Nx H st H' st'→ ∀ q∈pd,Pq P ops lz H' st'.nx q:=fun hn q hq=>(hpd q hq).nx hn
     have ofYld: ∀ {B:St},kG P I o st.toSt B→C4 o ≠ 2→ ∃ u G',(∀ w',(C4 o=2∨Cv w w')→(execOp a.eval o).run P w'= .ok (.value u) w')∧R F B (a.put o.dst u) w G':=fun hy h2=>by
      obtain⟨u,G',q1,q2⟩:=hy F a w G hI h.hR
      exact⟨u,G',fun w' hw'=>q1 w' (hw'.resolve_left h2),q2⟩
     split at hr
     ·rename_i h2 hlt
      have h2:C4 o=2:=Nat.eq_of_beq_eq_true h2
      have hsl:IH o.op=true:=by
       unfold C4 at h2
       split at h2
       ·split at h2
        ·assumption
        ·split at h2<;>cases h2
       ·cases h2
      obtain⟨u,hu,hr⟩:=IG hw (IK _ _) o.op R' _ r hr
      obtain⟨q1,q2,q3⟩:=hu rfl
      obtain⟨H',hn⟩:=Ag.put_nx hw o.dst q1
      refine go _ H' pd hlt hn (pdx hn) ?_ hr
      obtain⟨x,k1,k2⟩:=Zl h.hR rfl hsl q2
      change Ab w G (De P st.toSt true o.op).2 x at k1
      rw [show (De P st.toSt true o.op).2=u.toV from q3]at k1
      exact⟨x,G,fun w' _=>k2 w',by rw [Ag.put_toSt];exact h.hR.put k1⟩
     ·rename_i h2 hlt
      have h2:C4 o ≠ 2:=fun e=>by rw [e]at h2;simp at h2
      split at hr
      ·obtain⟨st',⟨⟨H',hn⟩,_,hy⟩,hr⟩:=aZ (I:=I) hw R' _ r hr
       exact go st' H' pd hlt hn (pdx hn) (ofYld hy h2) hr
      ·obtain⟨st',⟨⟨H',hn⟩,_,hy⟩,hr⟩:=eT (I:=I) hw R' _ r hr
       exact go st' H' pd hlt hn (pdx hn) (ofYld hy h2) hr
      ·cases hr
      ·rename_i hld
       have hrdk:B2 o.op= .rd :=by
        unfold mD at hld
        split at hld
        ·rename_i q;rw [q];rfl
        ·cases hld
       split at hr
       ·rename_i st' q hq
        obtain⟨H',hn,_,hy,hpq,_⟩:=iJ (I:=I) hw (lz:=lz) (fun q=>Eh.1 q) hi hq
        refine go st' H' (q::pd) hlt hn (fun q' hq'=>?_) (ofYld hy h2) hr
        rcases List.mem_cons.1 hq' with rfl | hq'
        ·exact hpq
        ·exact pdx hn q' hq'
       ·obtain⟨u,hu,hr⟩:=IG hw (IK _ _) o.op R' _ r hr
        obtain⟨H',hn⟩:=Ag.put_nx hw o.dst (hu rfl).1
        exact go _ H' pd hlt hn (pdx hn) (ofYld (fe hw hrdk hu) h2) hr
     ·cases hr
    ·cases hr
   ·split at hr
    ·rename_i i hpick
     obtain⟨hil,hrdv⟩:=ZC hpick
     have hiu:=a8 hrdv
     split at hr
     ·rename_i o hi hok
      simp only [Bool.and_eq_true]at hok
      obtain⟨hok,hun⟩:=hok
      split at hr
      ·
       rename_i hc hmk
       split at hr
       ·rename_i d x hd hx
        split at hr
        ·rename_i s hs
         have hxr: ∀ {m:Nat} {L:List Bool} {D:List (Nat×Nat)} {F:Fr} {a:Act} {w:World} {G:Ay} {b:Nat},Fx P ops pr lz F0 v st m L D F a w G→(i,b)∈D→Dj P ops (fun e a' w'=>e= .normal ∧ ∃ s G',PK s∧R F0 s a' w' G') pr lz m L.toArray a w:=by
          intro m L D F a w G b h hib
          obtain⟨G',hfx⟩:=h.adopt hi0 hl0 hw hib hi hd hx hs
          obtain⟨_,_,_,_,_,_,_,r1,_,_,r4,r5,_⟩:=h.hD _ hib
          simp only at r1
          rw [hi]at r1;injection r1 with r1;subst r1
          rw [hx]at r4;injection r4 with r4;subst r4
          obtain⟨⟨H1,n1⟩,_,_⟩:=Ag.new_spec hw r5.ok hs
          obtain⟨H2,n2⟩:=Ag.put_spec n1 (some d) (v:= .c (.c (RZ x (d::st.pre)))) (by simp only [DV.ok,DC.ok])
          exact MM hst hdn hlz hrec il hI0 hi0 hd0 hl0 n (v.set i true) pd _ H2 n2.ok (fun q hq=>(hpd q hq).nx n2) (Ga hma) hr (fun H'' s n' q=>hK H'' s (n2.trans n') q) m _ _ _ a w G' hfx
         have main: ∀ (m:Nat) (L:List Bool) (D:List (Nat×Nat)) (F:Fr) (a:Act) (w:World) (G:Ay),Fx P ops pr lz F0 v st m L D F a w G→Dj P ops (fun e a' w'=>e= .normal ∧ ∃ s G',PK s∧R F0 s a' w' G') pr lz m L.toArray a w:=by
          intro m
          induction m with
          | zero=>
            intro L D F a w G h
            by_cases hiD: ∃ b,(i,b)∈D
            ·obtain⟨b,hib⟩:=hiD;exact hxr h hib
            ·have:=h.pos hil hiu fun b hb=>hiD ⟨b,hb⟩
             omega
          | succ m ih=>
            intro L D F a w G h
            by_cases hiD: ∃ b,(i,b)∈D
            ·obtain⟨b,hib⟩:=hiD;exact hxr h hib
            ·have hiD: ∀ b,(i,b)∉D:=fun b hb=>hiD ⟨b,hb⟩
             refine⟨fun q=>(by have:=h.rdy hil hrdv hiD;rw [q]at this;cases this),fun j hj=>?_⟩
             have hmj:ZB ops j=true:=by
              by_cases hji:j=i
              ·subst hji;unfold ZB;rw [hi];exact hmk
              ·exact h.other hp hok hiD hj hji
             exact h.make hst hdn hlz hpd hck hi0 hw hma hun hj hmj fun L D F a w' G hfx _=>ih L D F a w' G hfx
         exact main m L D F a w G h
        ·cases hr
       ·cases hr
      ·rename_i hc hmk
       have hiD: ∀ {m:Nat} {L:List Bool} {D:List (Nat×Nat)} {F:Fr} {a:Act} {w:World} {G:Ay},Fx P ops pr lz F0 v st m L D F a w G→ ∀ b,(i,b)∉D:=by
        intro m L D F a w G h b hb
        obtain⟨_,_,o',_,_,_,_,r1,r2,_⟩:=h.hD _ hb
        simp only at r1
        rw [hi]at r1;injection r1 with r1;subst r1
        rw [hmk]at r2;cases r2
       split at hr
       ·rename_i hbs0
        have hbs:fp o=true:=by simp only [Bool.and_eq_true]at hbs0;exact hbs0.1
        have hg:o.guard=none:=by
         unfold fp at hbs
         split at hbs
         ·assumption
         ·cases hbs
        have main: ∀ (m:Nat) (L:List Bool) (D:List (Nat×Nat)) (F:Fr) (a:Act) (w:World) (G:Ay),Fx P ops pr lz F0 v st m L D F a w G→Dj P ops (fun e a' w'=>e= .normal ∧ ∃ s G',PK s∧R F0 s a' w' G') pr lz m L.toArray a w:=by
         intro m
         induction m with
         | zero=>
           intro L D F a w G h
           have:=h.pos hil hiu (hiD h)
           omega
         | succ m ih=>
           intro L D F a w G h
           have hrdy:=h.rdy hil hrdv (hiD h)
           refine⟨fun q=>(by rw [q]at hrdy;cases hrdy),fun j hj=>?_⟩
           by_cases hji:j=i
           ·subst hji
            have hI:F.I=I:=h.ht.inv0.trans hI0
            have hdc':=h.hdc.set hp hrdy
            rw [BD]at hdc'
            obtain⟨st',⟨⟨H',hn⟩,e1,e2,_⟩,hq⟩:=P4 hw o R' _ r hr
            have hckz:=R6 hq
            refine Zm hst hlz hi hc h.hdc hj h.hS (K:=fun a' w'=>Cv w w'∧ ∃ G',R F st'.toSt a' w' G') ?_ ?_ ?_ ?_
            ·rw [EJ hg,if_pos rfl]
             exact mH hbs e1 e2 h.hR
            ·intro a' w' ⟨hsm,_⟩ p op hop hcp hpl hpf he1 he2 hW d hd
             obtain⟨u,m1,m2⟩:=hW d hd
             refine⟨u,by rw [he2 d hd];exact m1,fun w1 hw1=>?_⟩
             have h1:=hw1.resolve_left (by rw [hcp];omega)
             rw [he1 w1 (hsm.trans h1)]
             exact m2 w1 (.inr (hsm.trans h1))
            ·intro a' w' a'' ⟨hsm,G',hR'⟩ ⟨p,op,d,u,u1,hop,u3,hpl,hpf,u6,ea⟩
             subst ea
             refine⟨hsm,G',?_⟩
             have hcp:=(GU hlz u1 hop).1
             have hpne:p ≠ j:=fun e=>by subst e;rw [hi]at hop;injection hop with hop;subst hop;omega
             have hvp:bv (v.set j true) p=true:=by
              rw [CM (by rw [h.hv];exact hil)]
              rcases C1 hpl with e | q
              ·exact absurd e hpne
              ·rw [E9,h.hb,Bool.or_eq_true]at q
               rw [Bool.or_eq_true]
               rcases q with q | q
               ·exact .inr q
               ·exfalso
                obtain⟨b,hb⟩:=H8.1 q
                obtain⟨_,_,o',_,_,_,_,r1,r2,_⟩:=h.hD _ hb
                simp only at r1
                rw [hop]at r1;injection r1 with r1;subst r1
                have:=(Ki r2).2.2
                omega
             simp only [Pa,List.all_eq_true,Bool.or_eq_true,Bool.not_eq_true']at hckz
             rcases hckz p u1 with q | q | q
             ·rw [hvp]at q;cases q
             ·exfalso
              refine hpf ?_
              simp only [fl,List.any_eq_true,List.mem_range,Bool.and_eq_true,Nat.beq_eq,Eh]at q
              obtain⟨k,_,k1,k2,k3⟩:=q
              refine⟨k,?_,k2,k3⟩
              rw [BD,E9,CM (by rw [h.hL];exact hil),h.hb]
              rw [CM (by rw [h.hv];exact hil)]at k1
              simp only [Bool.or_eq_true]at k1 ⊢
              exact k1.imp (fun q=>q) .inl
             ·simp only [List.any_eq_true,Bool.and_eq_true,Nat.beq_eq]at q
              obtain⟨q0,hq0,e0,hok'⟩:=q
              subst e0
              obtain⟨r1,x,_,r2,r3⟩:=Qb hn.ok ((hpd q0 hq0).nx hn) hok' hop hR'
              rw [u3]at r1;injection r1 with r1;subst r1
              rw [r3 w' (Cv.refl w')]at u6
              have hxu:x=u:=by simpa using u6
              subst hxu
              exact hR'.reput r2
            ·intro a' w' ⟨_,G',hR'⟩ ha' hS'
             rw [BD]at hS' ⊢
             refine MM hst hdn hlz hrec il hI0 hi0 hd0 hl0 n (v.set j true) pd st' H' hn.ok (fun q hq=>(hpd q hq).nx hn) (Ga hma) hq (fun H'' s n' q=>hK H'' s (hn.trans n') q) m _ D F a' w' G' ⟨⟨by simpa using h.hv,by simpa using h.hL,fun k=>?_,hdc',h.n1,h.n2,fun p hp'=>?_,h.ht,?_,hR'⟩,hS'⟩
             ·rw [CM (by rw [h.hL];exact hil),CM (by rw [h.hv];exact hil),h.hb,Bool.or_assoc]
             ·obtain⟨q1,q2,q3⟩:=h.hD p hp'
              have hne:p.1 ≠ j:=fun e=>hiD h p.2 (by rw [←e];exact hp')
              refine⟨q1,by rw [CM (by rw [h.hv];exact hil),q2];simpa using hne,q3.move fun d' o' ho' hd'=>?_⟩
              exact ha' d' (fun he=>Ey hdn hi ho' (Ne.symm hne) he hd' rfl) fun p2 op2 hp2 hc2 hd2=>by
               have hpp:p2 ≠ p.1:=fun e=>by
                subst e
                rw [ho']at hp2;injection hp2 with hp2;subst hp2
                exact hc2 (mG q3 ho')
               exact Ey hdn hp2 ho' hpp hd2 hd' rfl
             ·have h1:=Qc h.hv hil hiu
              have h2:=h.hc
              omega
           ·exact h.make hst hdn hlz hpd hck hi0 hw hma hun hj (h.other hp hok (hiD h) hj hji) fun L D F a w' G hfx _=>ih L D F a w' G hfx
        exact main m L D F a w G h
       ·skip
        have main: ∀ (m:Nat) (L:List Bool) (D:List (Nat×Nat)) (F:Fr) (a:Act) (w:World) (G:Ay),Fx P ops pr lz F0 v st m L D F a w G→Dj P ops (fun e a' w'=>e= .normal ∧ ∃ s G',PK s∧R F0 s a' w' G') pr lz m L.toArray a w:=by
         intro m
         induction m with
         | zero=>
           intro L D F a w G h
           have:=h.pos hil hiu (hiD h)
           omega
         | succ m ih=>
           intro L D F a w G h
           have hrdy:=h.rdy hil hrdv (hiD h)
           refine⟨fun q=>(by rw [q]at hrdy;cases hrdy),fun j hj=>?_⟩
           by_cases hji:j=i
           ·subst hji
            have hI:F.I=I:=h.ht.inv0.trans hI0
            have hdc':=h.hdc.set hp hrdy
            rw [BD]at hdc'
            have hwp:=lf hrec hw (PK:=fun s=> ∃ H' st',Nx H st H' st'∧R5 ops pr (v.set j true) pd st'=true∧IR Γ rec ops pr lz il n (v.set j true) pd st' R' K=some r∧s=st'.toSt) hr fun H' st' hn q=>by
             split at q
             ·rename_i hck;exact⟨H',st',hn,hck,q,rfl⟩
             ·cases q
            have fresh: ∀ {st':Ag T} {p:Nat} {op:Oper},R5 ops pr (v.set j true) pd st'=true→ops[p]? =some op→C4 op=1→L.toArray.getD p false=true→ ¬lW ops pr p (L.toArray.setIfInBounds j true)→ ∃ q∈pd,q.i=p∧cR st' q=true:=by
             intro st' p op hck hop hcp hpl hpf
             simp only [R5,List.all_eq_true,List.mem_range,Bool.or_eq_true,Bool.not_eq_true']at hck
             have hpl':p<ops.size:=(Array.getElem?_eq_some_iff.1 hop).1
             have hLp:(L.set j true).toArray.getD p false=true:=by rw [←BD];exact getD_set_true hpl
             have hcl1:J9 ops p=1:=by unfold J9;rw [hop];exact hcp
             have hvp:bv (v.set j true) p=true:=by
              rw [E9,CM (by rw [h.hL];exact hil),h.hb]at hLp
              rw [CM (by rw [h.hv];exact hil)]
              simp only [Bool.or_eq_true]at hLp ⊢
              rcases hLp with q | q | q
              ·exact .inl q
              ·exact .inr q
              ·exfalso
               obtain⟨b,hb⟩:=H8.1 q
               obtain⟨_,_,o',_,_,_,_,r1,r2,_⟩:=h.hD _ hb
               have:=ba (ops:=ops) (i:=p) (by unfold ZB;simp only at r1;rw [r1];exact r2)
               omega
             rcases hck p hpl' with q | q | q | q
             ·rw [q]at hvp;cases hvp
             ·rw [hcl1]at q;simp at q
             ·exfalso
              refine hpf ?_
              simp only [fl,List.any_eq_true,List.mem_range,Bool.and_eq_true,Nat.beq_eq,Eh]at q
              obtain⟨k,_,k1,k2,k3⟩:=q
              refine⟨k,?_,k2,k3⟩
              rw [BD,E9,CM (by rw [h.hL];exact hil),h.hb]
              rw [CM (by rw [h.hv];exact hil)]at k1
              simp only [Bool.or_eq_true]at k1 ⊢
              exact k1.imp (fun q=>q) .inl
             ·simp only [List.any_eq_true,Bool.and_eq_true,Nat.beq_eq]at q
              obtain⟨q0,hq0,e0,hok'⟩:=q
              exact⟨q0,hq0,e0,hok'⟩
            refine Zm hst hlz hi hc h.hdc hj h.hS (K:=fun a' w'=> ∃ H' st' G',Nx H st H' st'∧R5 ops pr (v.set j true) pd st'=true∧IR Γ rec ops pr lz il n (v.set j true) pd st' R' K=some r∧R F st'.toSt a' w' G') ?_ ?_ ?_ ?_
            ·have:=Uu (Q:=fun e a' w'=>e= .normal ∧ ∃ s G',PK s∧R F0 s a' w' G') h.hR (by rw [hI];exact hwp)
             have cv: ∀ a' w',ah F (fun s=> ∃ s',Wk s s'∧ ∃ H' st',Nx H st H' st'∧R5 ops pr (v.set j true) pd st'=true∧IR Γ rec ops pr lz il n (v.set j true) pd st' R' K=some r∧s'=st'.toSt) a' w'→ ∃ H' st' G',Nx H st H' st'∧R5 ops pr (v.set j true) pd st'=true∧IR Γ rec ops pr lz il n (v.set j true) pd st' R' K=some r∧R F st'.toSt a' w' G':=by
              rintro a' w' ⟨s,G1,⟨s',hwk,H',st',k1,k2,k3,rfl⟩,hR1⟩
              obtain⟨G2,hR2⟩:=hwk _ _ _ _ hR1
              exact⟨H',st',G2,k1,k2,k3,hR2⟩
             split at this
             ·rename_i hwt
              rw [if_pos hwt]
              exact Oper.wp_mono cv this
             ·rename_i hwt
              rw [if_neg hwt]
              exact cv _ _ this
            ·intro a' w' ⟨H',st',G',hn,hck,_,hR'⟩ p op hop hcp hpl hpf _ _ _
             obtain⟨q0,hq0,e0,hok'⟩:=fresh hck hop hcp hpl hpf
             subst e0
             exact fc hn.ok ((hpd q0 hq0).nx hn) hok' hop hcp hR'
            ·intro a' w' a'' ⟨H',st',G',hn,hck,hq,hR'⟩ ⟨p,op,d,u,u1,hop,u3,hpl,hpf,u6,ea⟩
             subst ea
             have hcp:=(GU hlz u1 hop).1
             refine⟨H',st',G',hn,hck,hq,?_⟩
             have hpl2:L.toArray.getD p false=true:=by
              rcases C1 hpl with e | q
              ·subst e;rw [hi]at hop;injection hop with hop;subst hop;omega
              ·exact q
             obtain⟨q0,hq0,e0,hok'⟩:=fresh hck hop hcp hpl2 hpf
             subst e0
             obtain⟨r1,x,_,r2,r3⟩:=Qb hn.ok ((hpd q0 hq0).nx hn) hok' hop hR'
             rw [u3]at r1;injection r1 with r1;subst r1
             rw [r3 w' (Cv.refl w')]at u6
             have hxu:x=u:=by simpa using u6
             subst hxu
             exact hR'.reput r2
            ·intro a' w' ⟨H',st',G',hn,_,hq,hR'⟩ ha' hS'
             rw [BD]at hS' ⊢
             refine MM hst hdn hlz hrec il hI0 hi0 hd0 hl0 n (v.set j true) pd st' H' hn.ok (fun q hq=>(hpd q hq).nx hn) (Ga hma) hq (fun H'' s n' q=>hK H'' s (hn.trans n') q) m _ D F a' w' G' ⟨⟨by simpa using h.hv,by simpa using h.hL,fun k=>?_,hdc',h.n1,h.n2,fun p hp'=>?_,h.ht,?_,hR'⟩,hS'⟩
             ·rw [CM (by rw [h.hL];exact hil),CM (by rw [h.hv];exact hil),h.hb,Bool.or_assoc]
             ·obtain⟨q1,q2,q3⟩:=h.hD p hp'
              have hne:p.1 ≠ j:=fun e=>hiD h p.2 (by rw [←e];exact hp')
              refine⟨q1,by rw [CM (by rw [h.hv];exact hil),q2];simpa using hne,q3.move fun d' o' ho' hd'=>?_⟩
              exact ha' d' (fun he=>Ey hdn hi ho' (Ne.symm hne) he hd' rfl) fun p2 op2 hp2 hc2 hd2=>by
               have hpp:p2 ≠ p.1:=fun e=>by
                subst e
                rw [ho']at hp2;injection hp2 with hp2;subst hp2
                exact hc2 (mG q3 ho')
               exact Ey hdn hp2 ho' hpp hd2 hd' rfl
             ·have h1:=Qc h.hv hil hiu
              have h2:=h.hc
              omega
           ·exact h.make hst hdn hlz hpd hck hi0 hw hma hun hj (h.other hp hok (hiD h) hj hji) fun L D F a w' G hfx _=>ih L D F a w' G hfx
        exact main m L D F a w G h
      ·cases hr
     ·cases hr
    ·cases hr
def fv (ops:Array Oper) (il:Hl):List Nat:=match (List.range ops.size).any fun i=>match JF il i with
    | .c _=>true
    | .j .. =>true
    | _=>false with
 | true=>(List.range ops.size).filter fun i=>LH ops [i]
 | false=>[]
theorem fw {ops:Array Oper} {il:Hl}:LH ops (fv ops il)=true:=by
 unfold fv
 split
 ·unfold LH
  rw [List.all_eq_true]
  intro p hp
  have:=(List.mem_filter.1 hp).2
  simpa [LH] using this
 ·rfl
def lg {P:Program} {I:World→Prop} (Γ:List (CE T P I)) (rec:cO T) (ops:Array Oper) (il:Hl) (pr:List (List Nat)) (st:Ag T) (R:Type) (K:Ag T→Option R):Option R:=match Nu ops pr&&(R3 ops&&R4 P ops st)with
 | true=>IR Γ rec ops pr (fv ops il) il ops.size (List.replicate ops.size false) [] (cT ops.toList st) R K
 | false=>none
theorem Wh: ∀ (l:List Oper) {H:At T} {st:Ag T},AB H st→(∃ H',Nx H st H' (cT l st))∧Wk st.toSt (cT l st).toSt
 | [],H,st,hw=>⟨⟨H,Nx.refl hw⟩,Wk.less (Ck.refl _)⟩
 | o::r,H,st,hw=>by
   unfold cT
   split
   ·obtain⟨H1,n1⟩:=Ag.put_nx hw o.dst (v:= .u) (by simp only [DV.ok])
    obtain⟨⟨H2,n2⟩,w2⟩:=Wh r n1.ok
    refine⟨⟨H2,n1.trans n2⟩,Wk.trans ?_ w2⟩
    intro F a w G hR
    refine⟨G,?_⟩
    rw [Ag.put_toSt]
    cases hd:o.dst with
    | none=>exact hR
    | some d=>exact hR.reslot (by simp only [DV.toV,Ab])
   ·exact Wh r hw
theorem iM (hfol:P.follows .mixedOrders =true) (hrec:XY P I rec) {il:Hl} {id:Nat} (hw:AB H st) {R':Type} {K:Ag T→Option R'} {r:R'} (hr:lg Γ rec ops il pr st R' K=some r) {F:Fr} (hI:F.I=I) {PK:St→Prop} {Q:Exit→St→Prop} (hPK: ∀ s,PK s→Q .normal s)
 (hK: ∀ H' st',Nx H st H' st'→K st'=some r→PK st'.toSt):Ae P F (.region id ops true) st.toSt Q:=by
 unfold lg at hr
 split at hr
 ·rename_i hst
  simp only [Bool.and_eq_true]at hst
  obtain⟨hst,hdn,hma⟩:=hst
  obtain⟨⟨H1,n1⟩,w1⟩:=Wh ops.toList hw
  refine Ae.wk w1 ?_
  intro a w G hR
  have hR':=hR.same (w':={w with drawn:=w.drawn+1}) ⟨rfl,rfl,rfl⟩ ⟨Nat.le_refl _,fun _ _=>rfl⟩
  have hz: ∀ k,bv (List.replicate ops.size false) k=false:=fun k=>by
   simp only [bv,List.getD_eq_getElem?_getD,List.getElem?_replicate]
   split<;>rfl
  have hz2: ∀ k,(List.replicate ops.size false).toArray.getD k false=false:=fun k=>by rw [E9,hz]
  have hu:(iL ops.size (List.replicate ops.size false)).length ≤ops.size:=by
   unfold iL
   refine Nat.le_trans (List.length_filter_le _ _) ?_
   simp
  have key:=MM (pr:=pr) hst hdn fw hrec il hI hR.inv hR.avold hR.avlt ops.size _ [] _ H1 n1.ok (fun q hq=>by cases hq) (Ga hma) hr (fun H' s n q=>hK H' s (n1.trans n) q) ops.size (List.replicate ops.size false) [] F a {w with drawn:=w.drawn+1} G
   (.mk ⟨(by simp),(by simp),(fun k=>by simp [hz]),(fun k hk=>by rw [hz2]at hk;cases hk),List.nodup_nil,List.nodup_nil,(fun p hp=>by cases hp),H7.start F,(by simpa using hu),hR'⟩ (fun i o _ _ hl=>by rw [hz2]at hl;cases hl))
  have:=Rt _ _ _ _ key
  have h2:=wp_region_any (id:=id) hfol (by simpa using this)
  refine Code.wp_mono (fun e a' w' h=>?_) h2
  obtain⟨he,s,h1,G',h2⟩:=h
  exact⟨s,G',by subst he;exact hPK s h1,h2⟩
 ·cases hr
end
end Go.PL
namespace Go.PL
open Go Go.RowKit
variable {T:Be}
def ET (T:Be):List (Nat×Gq)→Type
 | []=>Empty
 | [x]=>RT T x.2.ts
 | x::y::r=>RT T x.2.ts⊕ET T (y::r)
def fx {α β:Type} (f:α→β):Option α→Option β
 | some x=>some (f x)
 | none=>none
def cU (st0 st':Ag T) (k:Nat):(xs:List (Nat×Gq))→Option (ET T xs)
 | []=>none
 | [x]=>match Nat.beq x.1 k with
   | true=>x.2.gen st0 st'
   | false=>none
 | x::y::r=>match Nat.beq x.1 k with
   | true=>fx Sum.inl (x.2.gen st0 st')
   | false=>fx Sum.inr (cU st0 st' k (y::r))
def U8 {R:Type} (st0:Ag T) (K:Nat→Ag T→Option R):(xs:List (Nat×Gq))→ET T xs→Option R
 | []=>fun o=>nomatch o
 | [x]=>fun v=>match x.2.inst st0 (Cf x.2.ts v)with
   | some s=>K x.1 s
   | none=>none
 | x::y::r=>Sum.elim (fun v=>match x.2.inst st0 (Cf x.2.ts v)with
   | some s=>K x.1 s
   | none=>none) (U8 st0 K (y::r))
def ZE:Nat→Exit
 | 0=> .ret
 | n+1=> .exit n
def KN:Exit→Option Nat
 | .ret =>some 0
 | .exit n=>some (n+1)
 | _=>none
theorem ZF {e:Exit} {k:Nat} (h:KN e=some k):ZE k=e:=by
 cases e<;>simp only [KN,Option.some.injEq]at h<;>first
  | (subst h;rfl)
  | (cases h;done)
theorem NQ {α β:Type} {f:α→β} {o:Option α} {y:β} (h:fx f o=some y): ∃ x,o=some x∧f x=y:=by
 cases o with
 | none=>cases h
 | some x=>injection h with h;exact⟨x,rfl,h⟩
theorem bb {H H':At T} {R:Type} {st0 st':Ag T} {k:Nat} {K:Nat→Ag T→Option R} {r:R} (h0:AB H st0) (hN:Nx H st0 H' st'): ∀ {xs:List (Nat×Gq)} {o:ET T xs},cU st0 st' k xs=some o→U8 st0 K xs o=some r→
 ∃ s H2,Wk st'.toSt s.toSt∧Nx H st0 H2 s∧K k s=some r
 | [],o,h,_=>by cases h
 | [x],o,h,he=>by
   simp only [cU]at h
   split at h
   ·rename_i hb
    have hb:=Nat.eq_of_beq_eq_true hb
    subst hb
    simp only [U8]at he
    split at he
    ·rename_i s hi
     obtain⟨H2,n2⟩:=Gq.inst_nx h0 (DF _ _) hi
     exact⟨s,H2,Gq.gen_ok h0 hN h hi,n2,he⟩
    ·cases he
   ·cases h
 | x::y::r',o,h,he=>by
   simp only [cU]at h
   split at h
   ·rename_i hb
    have hb:=Nat.eq_of_beq_eq_true hb
    subst hb
    obtain⟨v,h1,rfl⟩:=NQ h
    simp only [U8,Sum.elim_inl]at he
    split at he
    ·rename_i s hi
     obtain⟨H2,n2⟩:=Gq.inst_nx h0 (DF _ _) hi
     exact⟨s,H2,Gq.gen_ok h0 hN h1 hi,n2,he⟩
    ·cases he
   ·obtain⟨v,h1,rfl⟩:=NQ h
    simp only [U8,Sum.elim_inr]at he
    exact bb h0 hN h1 he
theorem cV {σ ρ:Type} {B:σ→Option (σ⊕ρ)} {n:Nat} {s:σ} {o:ρ} (h:PL.iter B n s=some o): ∃ z,B s=some z:=by
 cases n with
 | zero=>cases h
 | succ n=>
   simp only [PL.iter]at h
   cases hb:B s with
   | some z=>exact⟨z,rfl⟩
   | none=>rw [hb]at h;cases h
section
variable {P:Program} {I:World→Prop}
def lh (Γ:List (CE T P I)) (rec:cO T) (ops:Array Oper) (dr:Bool) (fz:List Ah) (ow:List (Ah×Nat×Ah×Nat)) (il:Hl) (st:Ag T) (R:Type) (K:Ag T→Option R):Option R:=
 match dr with
 | false=>RY Γ rec ops il ops.toList 0 (Ex fz st) R fun s=>match XL ow s with
   | some s'=>K s'
   | none=>none
 | true=>match nT il with
   | true=>NM il 0 (Ex fz st) R fun s0=>lg Γ rec ops il (mC ops) s0 R fun s=>match XL ow s with
     | some s'=>K s'
     | none=>none
   | false=>match Region.lexB .any ops with
     | true=>eH Γ ops ops.toList (Ex fz st) R fun s=>match XL ow s with
       | some s'=>K s'
       | none=>none
     | false=>none
def li:Hn→List Ah×List (Ah×Nat×Ah×Nat)×Hl
 | .r fz ow il=>(fz,ow,il)
 | _=>([],[], .n)
def fy {R:Type} (N:Ag T→Option R) (K:Exit→Ag T→Option R) (e:Exit) (s:Ag T):Option R:=match e with
 | .normal =>N s
 | e=>K e s
def fA {R:Type} (j:Nat) (K:Exit→Ag T→Option R) (e:Exit) (s:Ag T):Option R:=match e with
 | .exit i=>match Nat.beq i j with
   | true=>K .normal s
   | false=>K (.exit i) s
 | e=>K e s
def K6 {α:Type} (h:Hn) (o:Option α):Option α:=match h with
 | .x =>none
 | _=>o
theorem DG {α:Type} {h:Hn} {o:Option α} {x:α} (q:K6 h o=some x):o=some x:=by
 unfold K6 at q
 split at q
 ·cases q
 ·exact q
def Il (Γ:List (CE T P I)) (rec:cO T):Code→Hn→Ag T→(R:Type)→(Exit→Ag T→Option R)→Option R
 | .skip,h,st,_,K=>K6 h (K .normal st)
 | .ret,h,st,_,K=>K6 h (K .ret st)
 | .exit j,h,st,_,K=>K6 h (K (.exit j) st)
 | .label _,h,st,_,K=>K6 h (K .normal st)
 | .scope c,h,st,R,K=>K6 h (Il Γ rec c h st R fun e s=>match KN e with
   | some _=>K e s
   | none=>match e with
     | .normal =>K .normal s
     | _=>none)
 | .block j c,h,st,R,K=>K6 h (Il Γ rec c h st R (fA j K))
 | .cond c x y,h,st,R,K=>K6 h (match st.ev c with
   | .c (.k .bool b)=>if(show Bool from b)=true then Il Γ rec x h.a st R K else Il Γ rec y h.b st R K
   | _=>none)
 | .seq a b,h,st,R,K=>match h with
   | .j sh ha hb=>jn (fun v:RT T sh.ts=>match sh.inst st (Cf sh.ts v)with
    | some s=>Il Γ rec b hb s R K
    | none=>none) (fun j=>Il Γ rec a ha st R (fy (fun s=>match sh.gen st s with
      | some v=>j v
      | none=>none) K))
   | .x =>none
   | h=>Il Γ rec a h.a st R (fy (fun s=>Il Γ rec b h.b s R K) K)
 | .region _ ops dr,h,st,R,K=>K6 h (lh Γ rec ops dr (li h).1 (li h).2.1 (li h).2.2 st R (K .normal))
 | .loop c,h,st,R,K=>match h with
   | .l sh xs hb=>match sh.gen st st with
     | some v0=>(iter (fun v:RT T sh.ts=>match sh.inst st (Cf sh.ts v)with
      | some s=>Il Γ rec c hb s (RT T sh.ts⊕ET T xs) fun e s'=>match e with
        | .normal =>match sh.gen st s' with
          | some v'=>match sh.inst st (Cf sh.ts v')with
            | some _=>some (.inl v')
            | none=>none
          | none=>none
        | e=>match KN e with
          | some k=>fx Sum.inr (cU st s' k xs)
          | none=>none
      | none=>none) FU v0).bind (U8 st (fun k s=>K (ZE k) s) xs)
     | none=>none
   | _=>none
 | _,_,_,_,_=>none
theorem Ae.wkQ {F:Fr} {c:Code} {st:St} {Q:Exit→St→Prop} (h:Ae P F c st (fun e s=> ∃ s',Wk s s'∧Q e s')):Ae P F c st Q:=fun a w G hR=>
 Code.wp_mono (fun _ _ _ ⟨_,G',⟨s',hwk,hq⟩,hR'⟩=>by
  obtain⟨G'',q⟩:=hwk _ _ _ _ hR'
  exact⟨s',G'',hq,q⟩) (h a w G hR)
theorem iN {Γ:List (CE T P I)} {rec:cO T} (hfol:P.follows .mixedOrders =true) (hrec:XY P I rec) {ops:Array Oper} {id:Nat} {dr:Bool} {fz:List Ah} {ow:List (Ah×Nat×Ah×Nat)} {il:Hl} {st:Ag T} {H:At T} (hw:AB H st) {R:Type} {K:Ag T→Option R} {r:R}
 (hr:lh Γ rec ops dr fz ow il st R K=some r) {F:Fr} (hI:F.I=I) {Q:Exit→St→Prop} (hK: ∀ H' st',Nx H st H' st'→K st'=some r→Q .normal st'.toSt):Ae P F (.region id ops dr) st.toSt Q:=by
 obtain⟨⟨H1,n1⟩,w1⟩:=ER (l:=fz) (Nx.refl hw)
 refine Ae.wk w1 (Ae.wkQ ?_)
 have fin: ∀ H' s,Nx H1 (Ex fz st) H' s→(match XL ow s with | some s'=>K s' | none=>none)=some r→ ∃ s',Wk s.toSt s'∧Q .normal s':=by
  intro H' s n q
  split at q
  ·rename_i s' hs
   obtain⟨⟨H2,n2⟩,w2,_⟩:=U0 (n1.trans n) hs
   exact⟨s'.toSt,w2,hK H2 s' n2 q⟩
  ·cases q
 unfold lh at hr
 split at hr
 ·refine Ae.regionW ?_
  rw [hI]
  exact a7 hrec il _ 0 _ H1 n1.ok R _ r hr (fun s=> ∃ s',Wk s s'∧Q .normal s') fun H' s n _ q=>fin H' s n q
 ·split at hr
  ·obtain⟨s0,⟨⟨H0,n0⟩,_,w0⟩,hr⟩:=E8 0 il n1.ok R _ r hr
   exact Ae.wk w0 (iM hfol hrec n0.ok hr hI (PK:=fun s=> ∃ s',Wk s s'∧Q .normal s') (fun _ h=>h) fun H' s n q=>fin H' s (n0.trans n) q)
  split at hr
  ·rename_i hl
   refine Ae.regionQ hfol hl ?_
   rw [hI]
   obtain⟨s,⟨⟨H2,n2⟩,_,w2⟩,hr⟩:=XH (Γ:=Γ) (ops:=ops) ops.toList (Ex fz st) H1 n1.ok R _ r hr
   exact w2 _ (fin H2 s n2 hr)
  ·cases hr
theorem Eo {Γ:List (CE T P I)} {rec:cO T} (hfol:P.follows .mixedOrders =true) (hrec:XY P I rec): ∀ (c:Code) (h:Hn) (st:Ag T) (H:At T) (R:Type) (K:Exit→Ag T→Option R) (r:R),AB H st→Il Γ rec c h st R K=some r→
 ∀ (F:Fr) (Q:Exit→St→Prop),F.I=I→(∀ H' e st',Nx H st H' st'→K e st'=some r→Q e st'.toSt)→Ae P F c st.toSt Q
 | .skip,h,st,H,R,K,r,hw,hr,F,Q,hI,hK=>Ae.skip (hK H _ st (Nx.refl hw) (DG hr))
 | .ret,h,st,H,R,K,r,hw,hr,F,Q,hI,hK=>Ae.ret (hK H _ st (Nx.refl hw) (DG hr))
 | .exit j,h,st,H,R,K,r,hw,hr,F,Q,hI,hK=>Ae.exit (hK H _ st (Nx.refl hw) (DG hr))
 | .label j,h,st,H,R,K,r,hw,hr,F,Q,hI,hK=>Ae.label (hK H _ st (Nx.refl hw) (DG hr))
 | .scope c,h,st,H,R,K,r,hw,hr,F,Q,hI,hK=>by
   refine Ae.scope (Eo hfol hrec c h st H R _ r hw (DG hr) F _ hI fun H' e st' n q=>?_)
   cases e<;>simp only [KN]at q<;>first
    | (cases q;done)
    | exact hK H' _ st' n q
 | .block j c,h,st,H,R,K,r,hw,hr,F,Q,hI,hK=>by
   refine Ae.block (Eo hfol hrec c h st H R _ r hw (DG hr) F _ hI fun H' e st' n q=>?_)
   cases e with
   | exit i=>
     simp only [fA]at q
     simp only [C3]
     split at q
     ·rename_i hb
      rw [if_pos (Nat.eq_of_beq_eq_true hb)]
      exact hK H' _ st' n q
     ·rename_i hb
      rw [if_neg (fun e=>by subst e;simp at hb)]
      exact hK H' _ st' n q
   | _=>exact hK H' _ st' n q
 | .cond c x y,h,st,H,R,K,r,hw,hr,F,Q,hI,hK=>by
   simp only [Il]at hr
   replace hr:=DG hr
   split at hr
   ·rename_i b hb
    have hev:=st.ev_toSt c
    rw [hb]at hev
    refine Ae.cond (b:=b) hev (fun e=>?_) (fun e=>?_)
    ·rw [if_pos e]at hr
     exact Eo hfol hrec x h.a st H R K r hw hr F Q hI hK
    ·rw [if_neg (by rw [show (show Bool from b)=b from rfl,e];simp)]at hr
     exact Eo hfol hrec y h.b st H R K r hw hr F Q hI hK
   ·cases hr
 | .region id ops dr,h,st,H,R,K,r,hw,hr,F,Q,hI,hK=>by
   simp only [Il]at hr
   exact iN hfol hrec hw (DG hr) hI fun H' st' n q=>hK H' _ st' n q
 | .seq a b,h,st,H,R,K,r,hw,hr,F,Q,hI,hK=>by
   simp only [Il]at hr
   split at hr
   ·rename_i sh ha hb
    unfold jn at hr
    refine Sj (X:=RT T sh.ts) (fun v=>match sh.inst st (Cf sh.ts v)with | some s=>s.toSt | none=>st.toSt) (fun v=> ∃ s,sh.inst st (Cf sh.ts v)=some s∧Il Γ rec b hb s R K=some r) ?_ ?_
    ·refine Eo hfol hrec a ha st H R _ r hw hr F _ hI fun H' e st' n q=>?_
     cases e with
     | normal=>
       simp only [fy]at q
       simp only [C0]
       split at q
       ·rename_i v hg
        split at q
        ·rename_i s hi
         exact⟨v,⟨s,hi,q⟩,by rw [hi];exact Gq.gen_ok hw n hg hi⟩
        ·cases q
       ·cases q
     | _=>exact hK H' _ st' n q
    ·rintro v ⟨s,hi,q⟩
     rw [hi]
     obtain⟨H2,n2⟩:=Gq.inst_nx hw (DF _ _) hi
     exact Eo hfol hrec b hb s H2 R K r n2.ok q F Q hI fun H' e st' n' q'=>hK H' e st' (n2.trans n') q'
   ·cases hr
   ·refine Ae.seq (Eo hfol hrec a _ st H R _ r hw hr F _ hI fun H' e st' n q=>?_)
    cases e with
    | normal=>exact Eo hfol hrec b _ st' H' R K r n.ok q F Q hI fun H'' e st'' n' q'=>hK H'' e st'' (n.trans n') q'
    | _=>exact hK H' _ st' n q
 | .loop c,h,st,H,R,K,r,hw,hr,F,Q,hI,hK=>by
   simp only [Il]at hr
   split at hr
   ·rename_i sh xs hb
    split at hr
    ·rename_i v0 hg0
     obtain⟨o,hi,hx⟩:=bS hr
     have hinst: ∃ s,sh.inst st (Cf sh.ts v0)=some s:=by
      obtain⟨z,hz⟩:=cV hi
      split at hz
      ·rename_i s hs;exact⟨s,hs⟩
      ·cases hz
     obtain⟨s0,hs0⟩:=hinst
     refine It (fun v=>match sh.inst st (Cf sh.ts v)with | some s=>s.toSt | none=>st.toSt) hi ?_ fun v z hz ho=>?_
     ·rw [hs0]
      exact Gq.gen_ok hw (Nx.refl hw) hg0 hs0
     ·split at hz
      ·rename_i s hs
       obtain⟨H2,n2⟩:=Gq.inst_nx hw (DF _ _) hs
       have exits: ∀ (H':At T) (e:Exit) (st':Ag T) (k:Nat),Nx H2 s H' st'→KN e=some k→fx Sum.inr (cU st st' k xs)=some z→ ∃ s'',Wk st'.toSt s''∧Q e s'':=by
        intro H' e st' k n he q
        obtain⟨o',h1,h2⟩:=NQ q
        have:=ho o' h2.symm
        subst this
        obtain⟨s'',H3,w3,n3,k3⟩:=bb (K:=fun k s=>K (ZE k) s) hw (n2.trans n) h1 hx
        rw [ZF he]at k3
        exact⟨s''.toSt,w3,hK H3 e s'' n3 k3⟩
       have main:=Eo hfol hrec c hb s H2 _ _ z n2.ok hz F (fun e s'=>match e with
        | .normal => ∃ v',z= .inl v'∧Wk s' (match sh.inst st (Cf sh.ts v')with | some s=>s.toSt | none=>st.toSt)
        | e=> ∃ s'',Wk s' s''∧Q e s'') hI fun H' e st' n q=>by
          cases e with
          | normal=>
            simp only at q
            split at q
            ·rename_i v' hg
             split at q
             ·rename_i s1 hs1
              injection q with q
              refine⟨v',q.symm,?_⟩
              rw [hs1]
              exact Gq.gen_ok hw (n2.trans n) hg hs1
             ·cases q
            ·cases q
          | ret=>exact exits H' _ st' _ n rfl q
          | exit i=>exact exits H' _ st' _ n rfl q
          | goto l=>cases q
          | panic ch=>cases q
          | outgrown=>cases q
       refine Ae.wkQ (main.mono fun e s' q=>?_)
       cases e with
       | normal=>exact⟨s',Wk.less (Ck.refl _),q⟩
       | _=>exact q
      ·cases hz
    ·cases hr
   ·cases hr
 | .rangeFunc ..,h,st,H,R,K,r,hw,hr,F,Q,hI,hK=>by simp only [Il]at hr;cases hr
 | .goto _,h,st,H,R,K,r,hw,hr,F,Q,hI,hK=>by simp only [Il]at hr;cases hr
 | .refuse _,h,st,H,R,K,r,hw,hr,F,Q,hI,hK=>by simp only [Il]at hr;cases hr
end
end Go.PL
namespace Go.PL
open Go Go.RowKit
variable {T:Be}
def IS:(ts:List VT)→XS T ts→List (DV T)
 | [],_=>[]
 | t::ts,x=>JD t x.1::IS ts x.2
theorem NR: ∀ (ts:List VT) (x:XS T ts),AO (IS ts x)=EO ts x
 | [],_=>by simp only [IS,AO,EO]
 | t::ts,x=>by simp only [IS,AO,EO,KG,NR ts]
theorem R7 {H:At T} {n:Nat}: ∀ (ts:List VT) (x:XS T ts),Cn H n (IS ts x)
 | [],_=>by simp only [IS,Cn]
 | t::ts,x=>by simp only [IS,Cn,MB,R7 ts,and_self]
def R8 (args:List (DV T)) (n:Nat):Ag T:=E5 0 args ⟨n,[],[],[],[],0⟩
theorem U9 {args:List (DV T)} {n:Nat} (ha: ∀ H:At T,Cn H 0 args): ∃ H,AB H (R8 args n):=by
 let H0:At T:=⟨fun _=> .u,fun _=>⟨[],0, .box []⟩⟩
 have h0:AB H0 (⟨n,[],[],[],[],0⟩:Ag T):=⟨fun _ _ _ hm=>by simp at hm,fun _ hm=>by simp at hm,fun _ hm=>by simp at hm,by simp⟩
 obtain⟨H,hN⟩:=LN (i:=0) (Nx.refl h0) (ha H0)
 exact⟨H,hN.ok⟩
theorem Pb {args:List (DV T)} {n:Nat} (hl:args.length≤n):(R8 args n).toSt =St.start (AO args) n:=by
 obtain⟨a,b,c,d⟩:=Jj args 0 (⟨n,[],[],[],[],0⟩:Ag T)
 unfold R8
 simp only [Ag.toSt,a,b,c,d,St.start,List.map_nil,List.flatMap_nil]
 rw [RK hl]
 intro j
 rw [LO]
 simp only [Nat.zero_le,true_and,Nat.zero_add,Nat.sub_zero]
 rfl
section
variable {H:At T} {P:Program} {I:World→Prop} {st:Ag T}
def lj (P:Program) (st:Ag T) (t:VT) (x:ResultVar):M (DA T t):= .bnd (O1 P st x) fun v=>match VV st v with
 | some w=> .sm (eF t w)
 | none=> .no
def Va (P:Program) (st:Ag T):(ts:List VT)→List ResultVar→M (RT T ts)
 | [],[]=> .ret ()
 | [t],[x]=>lj P st t x
 | t::u::ts,x::xs=> .bnd (lj P st t x) fun a=> .bnd (Va P st (u::ts) xs) fun b=> .ret (a,b)
 | _,_=> .no
theorem cW (x:ResultVar) (s:St):Mm P s x=((KS P s x).1,Bn s (KS P s x).2):=by cases x<;>rfl
theorem bc (hw:AB H st) (t:VT) (x:ResultVar):Yl (lj P st t x) (fun r=>(Mm P st.toSt x).1∧(Mm P st.toSt x).2=DB t r):=
 Yl.bnd (HC hw x) fun v hv=>by
  obtain⟨a,b,c⟩:=hv
  split
  ·rename_i w hs
   refine Yl.sm fun r hr=>?_
   rw [cW]
   exact⟨b,by simp only;rw [c,OY hs,Rx hr]⟩
  ·exact Yl.no
theorem X3 (hw:AB H st): ∀ (ts:List VT) (xs:List ResultVar),Yl (Va P st ts xs) (fun r=>(EK P st.toSt xs).1∧(EK P st.toSt xs).2=B7 ts r∧xs.length=ts.length)
 | [],[]=>Yl.ret ⟨trivial,by simp only [EK,B7],rfl⟩
 | [t],[x]=>(bc hw t x).mono fun r h=>⟨⟨h.1,trivial⟩,congrArg (fun z=>[z]) h.2,rfl⟩
 | t::u::ts,x::xs=>Yl.bnd (bc hw t x) fun a ha=>Yl.bnd (X3 hw (u::ts) xs) fun b hb=>Yl.ret (by
   simp only [EK,B7,ha.2,hb.2.1]
   exact⟨⟨ha.1,hb.1⟩,trivial,by simpa using hb.2.2⟩)
 | [],_::_=>Yl.no
 | [_],[]=>Yl.no
 | [_],_::_::_=>Yl.no
 | _::_::_,[]=>Yl.no
theorem ll (hw:AB H st) {ts:List VT} {xs:List ResultVar}:Yl (Va P st ts xs) (fun r=>(Di P st.toSt xs).1∧(Di P st.toSt xs).2=GG ts r):=
 (X3 hw ts xs).mono fun r h=>by
  obtain⟨h1,h2,h3⟩:=h
  match ts,xs,r,h1,h2,h3 with
  | [],[],r,h1,h2,_=>exact⟨h1,by simp only [Di,GG];rw [h2];simp only [B7]⟩
  | [t],[x],r,h1,h2,_=>
    simp only [EK]at h1 h2
    refine⟨h1.1,?_⟩
    have:[(Mm P st.toSt x).2]=[DB t r]:=h2
    injection this
  | t::u::ts,x::y::xs,r,h1,h2,_=>exact⟨h1,by simp only [Di,GG];rw [h2]⟩
  | [],_::_,_,_,_,h3=>simp at h3
  | [_],[],_,_,_,h3=>simp at h3
  | [_],_::_::_,_,_,_,h3=>simp at h3
  | _::_::_,[],_,_,_,h3=>simp at h3
  | _::_::_,[_],_,_,_,h3=>simp at h3
theorem Pc: ∀ (ts:List VT) (x:RT T ts),BZ (B7 ts x)=true
 | [],_=>by simp only [B7,BZ]
 | [t],x=>by simp only [B7,BZ,Bool.and_true];exact CL t x
 | t::u::ts,x=>by simp only [B7,BZ,CL,Pc (u::ts),Bool.and_self]
theorem Vb: ∀ (ts:List VT) (x:RT T ts),(GG ts x).pure =true
 | [],_=>by simp only [GG,V.pure,BZ]
 | [t],x=>CL t x
 | t::u::ts,x=>by simp only [GG,V.pure];exact Pc _ _
def fB (Γ:List (CE T P I)):Nat→cO T
 | 0=>fun _ _ _ _ _=>none
 | n+1=>fun R c h st K=>Il Γ (fB Γ n) c h st R K
theorem Wi {Γ:List (CE T P I)} (hfol:P.follows .mixedOrders =true): ∀ n,XY P I (fB Γ n)
 | 0=>fun _ _ _ _ _ _ _ _ hr=>by simp [fB]at hr
 | n+1=>fun R c h st H K r hw hr F Q hI hK=>Eo hfol (Wi hfol n) c h st H R K r hw hr F Q hI hK
def mI (P:Program) (rs:List VT) (xs:List ResultVar) (e:Exit) (st:Ag T):Option (RT T rs):=match e with
 | .normal =>Va P st rs xs _ some
 | .ret =>Va P st rs xs _ some
 | _=>none
def fC (Γ:List (CE T P I)) (n:Nat) (fn:Func) (body:Code) (h:Hn) (ps rs:List VT) (x:XS T ps):Option (RT T rs):=
 match Nat.ble (IS ps x).length fn.ntmps with
 | true=>Il Γ (fB Γ n) body h (R8 (IS ps x) fn.ntmps) (RT T rs) (mI P rs fn.results.toList)
 | false=>none
theorem mJ {Γ:List (CE T P I)} (hsta:Hb I) (hfol:P.follows .mixedOrders =true) {n:Nat} {f:FuncId} {fn:Func} {body:Code} (hf:P.funcs[f]? =some fn) (hb:fn.body=some body) (hent:PL.ent P f=true) {h:Hn} {ps rs:List VT} {x:XS T ps} {r:RT T rs}
 (hr:fC Γ n fn body h ps rs x=some r):CC P I f (EO ps x) (· =GG rs r):=by
 unfold fC at hr
 split at hr
 ·rename_i hl
  obtain⟨H,hw⟩:=U9 (args:=IS ps x) (n:=fn.ntmps) (fun H=>R7 ps x)
  refine CC.of hsta hent hf hb fun F hI=>?_
  rw [←NR, ←Pb (by simpa using hl)]
  refine Eo hfol (Wi hfol n) body h _ H _ _ r hw hr F _ hI fun H' e st' n q=>?_
  have fin:Va P st' rs fn.results.toList _ some=some r→(Di P st'.toSt fn.results.toList).1∧(Di P st'.toSt fn.results.toList).2.pure =true∧(Di P st'.toSt fn.results.toList).2=GG rs r:=by
   intro q
   obtain⟨v,⟨h1,h2⟩,h3⟩:=ll n.ok _ _ r q
   injection h3 with h3
   subst h3
   exact⟨h1,by rw [h2];exact Vb _ _,h2⟩
  cases e<;>simp only [mI,ai]at q ⊢ <;>first
   | exact fin q
   | (cases q;done)
 ·cases hr
def CG (Γ:List (CE T P I)) (hsta:Hb I) (hfol:P.follows .mixedOrders =true) (n:Nat) (f:FuncId) (fn:Func) (body:Code) (h:Hn) (ps rs:List VT) (run:XS T ps→Option (RT T rs)) (hf:P.funcs[f]? =some fn) (hb:fn.body=some body)
    (heq:run=fC Γ n fn body h ps rs) (hent:PL.ent P f=true:=by kernel_rfl):CE T P I where
 f:=f
 ps:=ps
 rs:=rs
 run:=run
 ok:=fun x r q=>mJ (h:=h) hsta hfol hf hb hent (by rw [←heq];exact q)
end
end Go.PL
namespace Go.PL
theorem MN {a b:Prop} (h:a=b) (p:a):b:=h▸p
end Go.PL
namespace Go.PL
open Go Go.RowKit
structure HI where
 den:Type
 inh:Inhabited den
 enc:den→List C
 ks:List Kd
def HI.unit:HI:=⟨Unit,⟨()⟩,fun _=>[],[]⟩
def MO:List (Nat×HI)→Nat→HI
 | [],_=> .unit
 | (k,r)::l,E=>match Nat.beq k E with
   | true=>r
   | false=>MO l E
structure Pd (R:Nat→HI) where
 E:Nat
 un:(R E).den →DK (fun E=>(R E).den) (R E).ks
 bd:DK (fun E=>(R E).den) (R E).ks →(R E).den
 beq:(R E).den →(R E).den →Bool
 unmk: ∀ y,un (bd y)=y
 encok: ∀ x,Bv (fun E=>(R E).enc) (R E).ks (un x)=(R E).enc x
 beqok: ∀ x y,beq x y=B1 ((R E).enc x) ((R E).enc y)
def X4 {R:Nat→HI}:List (Pd R)→(E:Nat)→Option {e:Pd R // e.E=E}
 | [],_=>none
 | e::l,E=>match Nat.decEq e.E E with
   | .isTrue h=>some ⟨e,h⟩
   | .isFalse _=>X4 l E
theorem Ez {R:Nat→HI}: ∀ {L1:List (Pd R)} {L0:List (Nat×HI)} {E:Nat},L1.map (·.E)=L0.map (·.1)→X4 L1 E=none→MO L0 E= .unit
 | [],[],_,_,_=>rfl
 | [],_::_,_,h,_=>by simp at h
 | _::_,[],_,h,_=>by simp at h
 | e::L1,(k,r)::L0,E,h,hf=>by
   simp only [List.map_cons,List.cons.injEq]at h
   unfold X4 at hf
   split at hf
   ·cases hf
   ·rename_i hne _
    have:Nat.beq k E=false:=by
     cases hb:Nat.beq k E with
     | false=>rfl
     | true=>exact absurd (h.1.trans (Nat.eq_of_beq_eq_true hb)) hne
    simp only [MO,this]
    exact Ez h.2 hf
inductive TSel (R:Nat→HI) (E:Nat) where
 | some (e:Pd R) (h:e.E=E)
 | none (h:R E=HI.unit)
def cX {R:Nat→HI} (L1:List (Pd R)) (hn: ∀ E,X4 L1 E=none→R E= .unit) (E:Nat):TSel R E:=match h:X4 L1 E with
 | some e=> .some e.1 e.2
 | none=> .none (hn E h)
section
variable {R:Nat→HI} {E:Nat}
def TSel.un:TSel R E→(R E).den →DK (fun E=>(R E).den) (R E).ks
 | .some e h=>h▸e.un
 | .none h=>fun _=>h▸(():DK (fun E=>(R E).den) HI.unit.ks)
def TSel.bd:TSel R E→DK (fun E=>(R E).den) (R E).ks →(R E).den
 | .some e h=>h▸e.bd
 | .none h=>fun _=>h▸(():HI.unit.den)
def TSel.beq:TSel R E→(R E).den →(R E).den →Bool
 | .some e h=>h▸e.beq
 | .none _=>fun _ _=>true
theorem TSel.unmk (s:TSel R E) (y:DK (fun E=>(R E).den) (R E).ks):s.un (s.bd y)=y:=by
 cases s with
 | some e h=>cases h;exact e.unmk y
 | none h=>
   show h▸(():DK (fun E=>(R E).den) HI.unit.ks)=y
   have: ∀ (D:Nat→Type) (r:HI) (h:r=HI.unit) (y:DK D r.ks),h▸(():DK D HI.unit.ks)=y:=by
    intro D r h y
    subst h
    rfl
   exact this _ _ h y
theorem TSel.encok (s:TSel R E) (x:(R E).den):Bv (fun E=>(R E).enc) (R E).ks (s.un x)=(R E).enc x:=by
 cases s with
 | some e h=>cases h;exact e.encok x
 | none h=>
   have: ∀ (r:HI) (h:r=HI.unit) (x:r.den) (z:DK (fun E=>(R E).den) r.ks),Bv (fun E=>(R E).enc) r.ks z=r.enc x:=by
    intro r h x z
    subst h
    rfl
   exact this _ h x _
theorem TSel.beqok (s:TSel R E) (x y:(R E).den):s.beq x y=B1 ((R E).enc x) ((R E).enc y):=by
 cases s with
 | some e h=>cases h;exact e.beqok x y
 | none h=>
   show true=_
   have: ∀ (r:HI) (h:r=HI.unit) (x y:r.den),true=B1 (r.enc x) (r.enc y):=by
    intro r h x y
    subst h
    rfl
   exact this _ h x y
end
def lm (L0:List (Nat×HI)) (L1:List (Pd (MO L0))) (hk:L1.map (·.E)=L0.map (·.1)):Be where
 den E:=(MO L0 E).den
 inh E:=(MO L0 E).inh
 enc E:=(MO L0 E).enc
 ks E:=(MO L0 E).ks
 un E:=(cX L1 (fun _ h=>Ez hk h) E).un
 bd E:=(cX L1 (fun _ h=>Ez hk h) E).bd
 beq E:=(cX L1 (fun _ h=>Ez hk h) E).beq
 unmk E:=(cX L1 (fun _ h=>Ez hk h) E).unmk
 encok E:=(cX L1 (fun _ h=>Ez hk h) E).encok
 beqok E:=(cX L1 (fun _ h=>Ez hk h) E).beqok
end Go.PL
set_option linter.all false
namespace Go.PL
open Go Go.RowKit
variable {T:Be}
def ZG (st:Ag T) (id:Ah):Option ((E:Nat)×(Int×List (T.den E))):=match Ed id&& !CJ id with
 | false=>none
 | true=>match Fl st.so id with
   | some e=>match e.x with
     | .deep E n l none=>some ⟨E,(n,l)⟩
     | _=>none
   | none=>none
theorem X5 {st:Ag T} {id:Ah} {E:Nat} {n:Int} {l:List (T.den E)} (h:ZG st id=some ⟨E,(n,l)⟩):Ed id=true∧CJ id=false∧ ∃ e∈st.so,e.id=id∧e.x= .deep E n l none:=by
 unfold ZG at h
 split at h
 ·cases h
 ·rename_i hd
  simp only [Bool.and_eq_true,Bool.not_eq_true']at hd
  split at h
  ·rename_i e he
   split at h
   ·rename_i E' n' l' hx
    injection h with h
    injection h with h1 h2
    subst h1
    have h2:=eq_of_heq h2
    injection h2 with h2 h3
    subst h2 h3
    obtain⟨a,b,_⟩:=Cq he
    exact⟨hd.1,hd.2,e,a,b,hx⟩
   ·cases h
  ·cases h
def fD (k:Kd) (c:DC T):M (KA T.den k×List Ah):= .bnd (.sm (Gv true k c)) fun x=> .ret (x,[])
def iO (st:Ag T) (m:Nat) (k:Kd) (c:DC T):M (KA T.den k×List Ah):=match k with
 | .lst E=>match m with
   | 1=>match HX c with
     | some id=>match Db st id with
       | some ⟨E',l⟩=> .bnd (.sm (U3 E E' l)) fun l'=> .ret (l',[id])
       | none=> .no
     | none=> .no
   | 2=>match HX c with
     | some id=>match ZG st id with
       | some ⟨E',(n,l)⟩=> .opt (AS (n=(List.length l:Nat))) fun _=> .bnd (.sm (U3 E E' l)) fun l'=> .ret (l',[id])
       | none=> .no
     | none=> .no
   | _=>fD (.lst E) c
 | k=>fD k c
def iP (st:Ag T):List Nat→(ks:List Kd)→List (DC T)→M (DK T.den ks×List Ah)
 | m::ms,k::ks,c::cs=> .bnd (iO st m k c) fun a=> .bnd (iP st ms ks cs) fun b=> .ret ((a.1,b.1),a.2++b.2)
 | [],k::ks,c::cs=> .bnd (fD k c) fun a=> .bnd (iP st [] ks cs) fun b=> .ret ((a.1,b.1),b.2)
 | _,[],[]=> .ret ((),[])
 | _,_,_=> .no
def ZH (st:Ag T) (m:List Nat):(t:VT)→DV T→M (DA T t×List Ah)
 | .k kd,v=>match mm v with
   | some c=>iO st (m.headD 0) kd c
   | none=> .no
 | .s E,v=>match mn v with
   | some cs=> .bnd (iP st m (T.ks E) cs) fun a=> .ret (T.bd E a.1,a.2)
   | none=> .no
 | .f _,_=> .no
def cY (P:Program) (st:Ag T):List (List Nat)→(ts:List VT)→List ResultVar→M (RT T ts×List Ah)
 | m::_,[t],[x]=> .bnd (O1 P st x) fun v=>ZH st m t v
 | [],[t],[x]=> .bnd (O1 P st x) fun v=>ZH st [] t v
 | m::ms,t::u::ts,x::xs=> .bnd (O1 P st x) fun v=> .bnd (ZH st m t v) fun a=> .bnd (cY P st ms (u::ts) xs) fun b=> .ret ((a.1,b.1),a.2++b.2)
 | [],t::u::ts,x::xs=> .bnd (O1 P st x) fun v=> .bnd (ZH st [] t v) fun a=> .bnd (cY P st [] (u::ts) xs) fun b=> .ret ((a.1,b.1),a.2++b.2)
 | _,_,_=> .no
structure Yv (st:Ag T) (os:List OE) (ids:List Ah) (n:Nat):Prop where
 len:os.length=n∧ids.length=n
 ns:HH os ids=true
 so: ∀ e∈Cr os ids,e∈st.toSt.so
theorem Yv.nil {st:Ag T}:Yv st [] [] 0:=⟨⟨rfl,rfl⟩,rfl,fun _ h=>by simp [Cr]at h⟩
theorem Yv.append {st:Ag T} {a b:List OE} {i j:List Ah} {n m:Nat} (h:Yv st a i n) (k:Yv st b j m):Yv st (a++b) (i++j) (n+m):=by
 have e:a.length=i.length:=h.len.1.trans h.len.2.symm
 refine⟨⟨by simp [h.len.1,k.len.1],by simp [h.len.2,k.len.2]⟩,H6 h.ns k.ns,fun x hx=>?_⟩
 rw [GI e]at hx
 rcases List.mem_append.1 hx with hx | hx
 ·exact h.so x hx
 ·exact k.so x hx
theorem HE: ∀ (ks:List Kd) (x:DK T.den ks),B8 [] ks x=[]
 | [],_=>rfl
 | _::_,_=>rfl
theorem cZ (ks:List Kd):El [] ks=0:=by cases ks<;>rfl
theorem be {k:Kd} {c:DC T}:Yl (fD k c) (fun a=>a.2=[]∧ ∀ (w:World) (G:Ay) (v:Value),Ad w G c.toC v→Ad w G (Bd T.enc k a.1) v):=
 Yl.bnd (Yl.sm fun x hx=>(Co hx).1) fun x hx=>Yl.ret ⟨rfl,fun w G v h=>by simp only;rw [←hx];exact GO h⟩
theorem bg {st:Ag T} {H:At T} (hw:AB H st) (m:Nat) (k:Kd) (c:DC T):Yl (iO st m k c) (fun a=>Yv st (Hx m k a.1) a.2 (JI m k)∧
 ∀ (pre post:List Ah) (w:World) (G:Ay) (v:Value),Ad w G c.toC v→Ad w G ((K4 m pre.length k a.1).toC (pre++(a.2++post))) v):=by
 have fr: ∀ (k:Kd) (c:DC T),(∀ x,Hx (T:=T) m k x=[])→JI m k=0→Yl (fD k c) (fun a=>Yv st (Hx m k a.1) a.2 (JI m k)∧
  ∀ (pre post:List Ah) (w:World) (G:Ay) (v:Value),Ad w G c.toC v→Ad w G ((K4 m pre.length k a.1).toC (pre++(a.2++post))) v):=fun k c h1 h2=>by
  refine be.mono fun a ⟨q1,q2⟩=>⟨by rw [h1,q1,h2];exact Yv.nil,fun pre post w G v h=>?_⟩
  unfold K4
  rw [h2]
  exact q2 w G v h
 have own: ∀ (E:Nat) (id:Ah) (e:DE T) (dp:Bool) (l:List (T.den E)) (cs:List C),HX c=some id→e∈st.so→e.id=id→Ed id=dp→CJ id=false→e.toE=⟨id,some (E,T.sz E,l.length),cs,true⟩→
  Yv st [⟨dp,E,T.sz E,l.length,cs⟩] [id] 1∧ ∀ (pre post:List Ah) (w:World) (G:Ay) (v:Value),Ad w G c.toC v→Ad w G (PC.toC (pre++([id]++post)) (.o pre.length)) v:=by
  intro E id e dp l cs ho hm hid hd hmk hE
  refine⟨⟨⟨rfl,rfl⟩,by simp [HH,hd,hmk],fun x hx=>?_⟩,fun pre post w G v h=>?_⟩
  ·simp only [Cr,List.mem_singleton]at hx
   subst hx
   have:(⟨dp,E,T.sz E,l.length,cs⟩:OE).ent id=e.toE:=by rw [hE];rfl
   rw [this]
   exact List.mem_map.2 ⟨e,hm,rfl⟩
  ·simp only [PC.toC,XQ]
   rw [Dy ho]at h
   simpa only [DC.toC] using h
 unfold iO
 cases k with
 | lst E=>
   match m with
   | 0=>exact fr (.lst E) c (fun _=>rfl) rfl
   | _+3=>exact fr (.lst E) c (fun _=>rfl) rfl
   | 1=>
     simp only
     split
     ·rename_i id ho
      split
      ·rename_i E' l hr
       refine Yl.bnd (Yl.sm fun x hx=>hx) fun l' hl=>Yl.ret ?_
       obtain⟨e,rfl⟩:=Jn hl
       subst e
       obtain⟨h1,_,d,h2,h3,h4⟩:=BF hr
       have hE:=DE.toE_row h4
       rw [h3]at hE
       exact own E' id d false l _ ho h2 h3 (En h1) (by
        have:=hw
        unfold Db Ag.look at hr
        cases hq:CJ id with
        | false=>rfl
        | true=>simp [hq]at hr) hE
      ·exact Yl.no
     ·exact Yl.no
   | 2=>
     simp only
     split
     ·rename_i id ho
      split
      ·rename_i E' n l hr
       refine Yl.opt fun u hu=>Yl.bnd (Yl.sm fun x hx=>hx) fun l' hl=>Yl.ret ?_
       obtain⟨e,rfl⟩:=Jn hl
       subst e
       obtain⟨h1,h1',d,h2,h3,h4⟩:=X5 hr
       have hn:n=(l.length:Int):=CQ hu
       have hE:d.toE=⟨id,some (E',T.sz E',l.length),Aw T E' (List.length l:Nat) 0 l,true⟩:=by
        unfold DE.toE;rw [h4,h3];subst hn;rfl
       exact own E' id d true l _ ho h2 h3 h1 h1' hE
      ·exact Yl.no
     ·exact Yl.no
 | int k=>exact fr (.int k) c (fun _=>rfl) rfl
 | bool=>exact fr .bool c (fun _=>rfl) rfl
 | str=>exact fr .str c (fun _=>rfl) rfl
theorem Wj {st:Ag T} {H:At T} (hw:AB H st): ∀ (ms:List Nat) (ks:List Kd) (cs:List (DC T)),Yl (iP st ms ks cs) (fun a=>Yv st (B8 ms ks a.1) a.2 (El ms ks)∧
 ∀ (pre post:List Ah) (w:World) (G:Ay) (vs:List Value),Ai w G (Aq cs) vs→Ai w G ((Ek ms pre.length ks a.1).map (PC.toC (pre++(a.2++post)))) vs)
 | [],[],[]=>Yl.ret ⟨Yv.nil,fun pre post w G vs h=>by simpa [Aq,Ek] using h⟩
 | _::_,[],[]=>Yl.ret ⟨Yv.nil,fun pre post w G vs h=>by simpa [Aq,Ek] using h⟩
 | m::ms,k::ks,c::cs=>Yl.bnd (bg hw m k c) fun a ha=>Yl.bnd (Wj hw ms ks cs) fun b hb=>Yl.ret (by
   refine⟨ha.1.append hb.1,fun pre post w G vs h=>?_⟩
   cases vs with
   | nil=>simp [Aq,Ai]at h
   | cons v vs=>
     simp only [Aq,Ai]at h
     simp only [Ek,List.map_cons,Ai]
     have h2:=hb.2 (pre++a.2) post w G vs h.2
     rw [List.length_append,ha.1.len.2]at h2
     simp only [List.append_assoc]at h2 ⊢
     exact⟨ha.2 pre (b.2++post) w G v h.1,h2⟩)
 | [],k::ks,c::cs=>Yl.bnd be fun a ha=>Yl.bnd (Wj hw [] ks cs) fun b hb=>Yl.ret (by
   refine⟨hb.1,fun pre post w G vs h=>?_⟩
   cases vs with
   | nil=>simp [Aq,Ai]at h
   | cons v vs=>
     simp only [Aq,Ai]at h
     simp only [Ek,List.map_cons,Ai,PC.toC]
     exact⟨ha.2 w G v h.1,hb.2 pre post w G vs h.2⟩)
 | [],[],_::_=>Yl.no
 | _::_,[],_::_=>Yl.no
 | [],_::_,[]=>Yl.no
 | _::_,_::_,[]=>Yl.no
theorem Qd {st:Ag T} {H:At T} (hw:AB H st) (m:List Nat) (t:VT) (v:DV T):Yl (ZH st m t v) (fun a=>Yv st (B8 m (C5 T t) (JJ t a.1)) a.2 (El m (C5 T t))∧
 ∀ (pre post:List Ah) (w:World) (G:Ay) (u:Value),Ab w G v.toV u→Ab w G ((Gz m pre.length t a.1).toV (pre++(a.2++post))) u):=by
 cases t with
 | k kd=>
   simp only [ZH]
   split
   ·rename_i c hc
    rw [Ru hc]
    refine(bg hw (m.headD 0) kd c).mono fun a ⟨h1,h2⟩=>?_
    have e1:B8 m [kd] ((a.1,()):DK T.den [kd])=Hx (m.headD 0) kd a.1:=by
     cases m with
     | nil=>simp only [B8,List.headD_nil];unfold Hx;cases kd<;>rfl
     | cons x m=>cases m<;>simp [B8]
    have e2:El m [kd]=JI (m.headD 0) kd:=by
     cases m with
     | nil=>simp only [El,List.headD_nil];unfold JI;cases kd<;>rfl
     | cons x m=>cases m<;>simp [El]
    refine⟨by show Yv st (B8 m [kd] ((a.1,()):DK T.den [kd])) a.2 (El m [kd]);rw [e1,e2];exact h1,fun pre post w G u h=>?_⟩
    simp only [DV.toV,Ab]at h
    simp only [Gz,PP.toV,Ab]
    exact h2 pre post w G u h
   ·exact Yl.no
 | s E=>
   simp only [ZH]
   split
   ·rename_i cs hc
    rw [Rv hc]
    refine Yl.bnd (Wj hw m (T.ks E) cs) fun a ⟨h1,h2⟩=>Yl.ret ⟨?_,fun pre post w G u h=>?_⟩
    ·simp only [C5,JJ,T.unmk];exact h1
    ·simp only [DV.toV,Ab]at h
     obtain⟨arr,e,h⟩:=h
     simp only [Gz,PP.toV,Ab,T.unmk]
     exact⟨arr,e,h2 pre post w G _ h⟩
   ·exact Yl.no
 | f g=>exact Yl.no
theorem Wl {P:Program} {st:Ag T} {H:At T} (hw:AB H st): ∀ (ow:List (List Nat)) (ts:List VT) (xs:List ResultVar),Yl (cY P st ow ts xs) (fun a=>(Ch P st.toSt xs).1∧(∃ n,Yv st (CR ow ts a.1) a.2 n)∧xs.length=ts.length∧
 ∀ (pre post:List Ah) (w:World) (G:Ay) (us:List Value),Ap w G (Ch P st.toSt xs).2 us→Ap w G ((BL ow pre.length ts a.1).map (PP.toV (pre++(a.2++post)))) us)
 | m::ms,[t],[x]=>Yl.bnd (HC hw x) fun v hv=>(Qd hw m t v).mono fun a ha=>by
   obtain⟨v1,v2,v3⟩:=hv
   refine⟨⟨v2,trivial⟩,⟨_,by simp only [CR];exact ha.1⟩,rfl,fun pre post w G us h=>?_⟩
   simp only [Ch,Ap]at h
   obtain⟨u,r,rfl,h1,rfl⟩:=h
   rw [v3]at h1
   simp only [BL,List.map_cons,List.map_nil,Ap]
   exact⟨u,[],rfl,ha.2 pre post w G u h1,rfl⟩
 | [],[t],[x]=>Yl.bnd (HC hw x) fun v hv=>(Qd hw [] t v).mono fun a ha=>by
   obtain⟨v1,v2,v3⟩:=hv
   have e1:B8 [] (C5 T t) (JJ t a.1)=[]:=HE _ _
   rw [e1]at ha
   refine⟨⟨v2,trivial⟩,⟨_,by simp only [CR];exact ha.1⟩,rfl,fun pre post w G us h=>?_⟩
   simp only [Ch,Ap]at h
   obtain⟨u,r,rfl,h1,rfl⟩:=h
   rw [v3]at h1
   simp only [BL,List.map_cons,List.map_nil,Ap]
   exact⟨u,[],rfl,ha.2 pre post w G u h1,rfl⟩
 | m::ms,t::u::ts,x::xs=>Yl.bnd (HC hw x) fun v hv=>Yl.bnd (Qd hw m t v) fun a ha=>Yl.bnd (Wl hw ms (u::ts) xs) fun b hb=>Yl.ret (by
   obtain⟨v1,v2,v3⟩:=hv
   obtain⟨b1,⟨n,b2⟩,b3,b4⟩:=hb
   refine⟨⟨v2,b1⟩,⟨_,by simp only [CR];exact ha.1.append b2⟩,by simpa using b3,fun pre post w G us h=>?_⟩
   simp only [Ch,Ap]at h
   obtain⟨u',r,rfl,h1,h2⟩:=h
   rw [v3]at h1
   have h3:=b4 (pre++a.2) post w G r h2
   rw [List.length_append,ha.1.len.2]at h3
   simp only [BL,List.map_cons,Ap,List.append_assoc]at h3 ⊢
   exact⟨u',r,rfl,ha.2 pre (b.2++post) w G u' h1,h3⟩)
 | [],t::u::ts,x::xs=>Yl.bnd (HC hw x) fun v hv=>Yl.bnd (Qd hw [] t v) fun a ha=>Yl.bnd (Wl hw [] (u::ts) xs) fun b hb=>Yl.ret (by
   obtain⟨v1,v2,v3⟩:=hv
   obtain⟨b1,⟨n,b2⟩,b3,b4⟩:=hb
   have e1:B8 [] (C5 T t) (JJ t a.1)=[]:=HE _ _
   have e2:El [] (C5 T t)=0:=cZ _
   rw [e1,e2]at ha
   have e3:a.2=[]:=List.length_eq_zero_iff.1 ha.1.len.2
   refine⟨⟨v2,b1⟩,⟨n,by simp only [CR,e3,List.nil_append];exact b2⟩,by simpa using b3,fun pre post w G us h=>?_⟩
   simp only [Ch,Ap]at h
   obtain⟨u',r,rfl,h1,h2⟩:=h
   rw [v3]at h1
   have h3:=b4 pre post w G r h2
   have h4:=ha.2 pre (b.2++post) w G u' h1
   rw [e3]at h4
   simp only [BL,List.map_cons,Ap,e3,List.nil_append]at h3 h4 ⊢
   exact⟨u',r,rfl,h4,h3⟩)
 | [],[],[]=>Yl.no
 | [],[],_::_=>Yl.no
 | _::_,[],[]=>Yl.no
 | _::_,[],_::_=>Yl.no
 | [],[_],[]=>Yl.no
 | _::_,[_],[]=>Yl.no
 | [],[_],_::_::_=>Yl.no
 | _::_,[_],_::_::_=>Yl.no
 | [],_::_::_,[]=>Yl.no
 | _::_,_::_::_,[]=>Yl.no
section
variable {P:Program} {I:World→Prop}
def jH (P:Program) (ow:List (List Nat)) (rs:List VT) (xs:List ResultVar) (e:Exit) (st:Ag T):Option (RT T rs):=match e with
 | .normal =>cY P st ow rs xs _ fun a=>match Jb a.2 with
   | true=>some a.1
   | false=>none
 | .ret =>cY P st ow rs xs _ fun a=>match Jb a.2 with
   | true=>some a.1
   | false=>none
 | _=>none
def ZI (Γ:List (CE T P I)) (n:Nat) (fn:Func) (body:Code) (h:Hn) (ow:List (List Nat)) (ps rs:List VT) (x:XS T ps):Option (RT T rs):=
 match Nat.ble (IS ps x).length fn.ntmps with
 | true=>Il Γ (fB Γ n) body h (R8 (IS ps x) fn.ntmps) (RT T rs) (jH P ow rs fn.results.toList)
 | false=>none
theorem fE (m:Nat) (k:Kd) (x:KA T.den k):(PC.c (Bd T.enc k x)).ok m=true:=by
 have:=CL (T:=T) (.k k) x
 simpa only [DB,V.pure,PC.ok] using this
theorem X6 (m j:Nat) (k:Kd) (x:KA T.den k) (M:Nat) (h:j+JI m k≤M):(K4 m j k x).ok M=true:=by
 unfold K4
 split
 ·exact fE _ _ _
 ·rename_i n hn
  simp only [PC.ok,Nat.blt_eq]
  have:JI m k ≠ 0:=fun e=>hn e
  omega
theorem R9: ∀ (ms:List Nat) (j:Nat) (ks:List Kd) (x:DK T.den ks) (M:Nat),j+El ms ks≤M→(Ek ms j ks x).all (PC.ok M)=true
 | [],_,[],_,_,_=>rfl
 | _::_,_,[],_,_,_=>rfl
 | [],j,k::ks,x,M,h=>by
   have e:El [] ks=0:=by cases ks<;>rfl
   simp only [Ek,List.all_cons,fE,Bool.true_and]
   exact R9 [] j ks x.2 M (by simp only [El]at h;omega)
 | m::ms,j,k::ks,x,M,h=>by
   simp only [El]at h
   simp only [Ek,List.all_cons,Bool.and_eq_true]
   exact⟨X6 m j k x.1 M (by omega),R9 ms (j+JI m k) ks x.2 M (by omega)⟩
theorem MP (m:List Nat) (j:Nat) (t:VT) (x:DA T t) (M:Nat) (h:j+El m (C5 T t)≤M):(Gz m j t x).ok M=true:=by
 cases t with
 | k kd=>
   simp only [Gz,PP.ok]
   refine X6 _ _ _ _ _ ?_
   cases m with
   | nil=>simp only [List.headD_nil];unfold JI;cases kd<;>simp<;>omega
   | cons a m=>cases m<;>simp [C5,El]at h ⊢ <;>omega
 | s E=>exact R9 _ _ _ _ _ h
 | f g=>rfl
theorem LU (ms:List Nat) (ks:List Kd) (x:DK T.den ks):(B8 ms ks x).length =El ms ks:=by
 obtain⟨a,b⟩:=Jl ms 0 [] ks x
 rw [a,b]
theorem Sa: ∀ (ow:List (List Nat)) (j:Nat) (ts:List VT) (x:RT T ts) (M:Nat),j+(CR ow ts x).length ≤M→(BL ow j ts x).all (PP.ok M)=true
 | [],_,[],_,_,_=>rfl
 | _::_,_,[],_,_,_=>rfl
 | [],j,[t],x,M,h=>by
   simp only [BL,List.all_cons,List.all_nil,Bool.and_true]
   exact MP [] j t x M (by have:El [] (C5 T t)=0:=by cases C5 T t<;>rfl
                           omega)
 | m::ms,j,[t],x,M,h=>by
   simp only [BL,List.all_cons,List.all_nil,Bool.and_true]
   simp only [CR,LU]at h
   exact MP m j t x M h
 | [],j,t::u::ts,x,M,h=>by
   simp only [BL,List.all_cons,Bool.and_eq_true]
   exact⟨MP [] j t x.1 M (by have:El [] (C5 T t)=0:=by cases C5 T t<;>rfl
                             omega),Sa [] j (u::ts) x.2 M (by have e:CR [] (u::ts) x.2=[]:=by cases ts<;>rfl
                                                              rw [e];simp only [List.length_nil];omega)⟩
 | m::ms,j,t::u::ts,x,M,h=>by
   simp only [CR,List.length_append,LU]at h
   simp only [BL,List.all_cons,Bool.and_eq_true]
   exact⟨MP m j t x.1 M (by omega),Sa ms _ (u::ts) x.2 M (by omega)⟩
theorem Vc {P:Program} {st:St} {xs:List ResultVar} {w:World} {G:Ay} {v:Value} {ps:List PP} {ids:List Ah} (hl:ps.length=xs.length) (hs:(Ch P st xs).1) (h: ∀ us,Ap w G (Ch P st xs).2 us→Ap w G (ps.map (PP.toV ids)) us):(Cd P st xs).1∧(Ab w G (Cd P st xs).2 v→Ab w G (JH ids ps) v):=by
 match xs,ps,hl,hs,h with
 | [x],[p],_,hs,h=>
   refine⟨hs.1,fun hv=>?_⟩
   have:=h [v] (by simp only [Ch,Ap];exact⟨v,[],rfl,hv,rfl⟩)
   simp only [List.map_cons,List.map_nil,Ap]at this
   obtain⟨v',r,e,h1,rfl⟩:=this
   injection e with e _
   subst e
   exact h1
 | [],[],_,hs,h=>exact⟨trivial,fun hv=>by simpa only [Cd,Ch,JH,List.map_nil] using hv⟩
 | x::y::xs,p::q::ps,_,hs,h=>
   refine⟨hs,fun hv=>?_⟩
   simp only [Cd,Ab]at hv
   obtain⟨arr,e,hv⟩:=hv
   simp only [JH,Ab]
   exact⟨arr,e,h _ hv⟩
theorem D0: ∀ (ow:List (List Nat)) (j:Nat) (ts:List VT) (x:RT T ts),(BL ow j ts x).length =ts.length
 | [],_,[],_=>rfl
 | _::_,_,[],_=>rfl
 | [],j,[t],x=>rfl
 | m::ms,j,[t],x=>rfl
 | [],j,t::u::ts,x=>by simp only [BL,List.length_cons,D0 [] j (u::ts) x.2]
 | m::ms,j,t::u::ts,x=>by simp only [BL,List.length_cons,D0 ms _ (u::ts) x.2]
theorem fF {Γ:List (CE T P I)} (hsta:Hb I) (hfol:P.follows .mixedOrders =true) {n:Nat} {f:FuncId} {fn:Func} {body:Code} (hf:P.funcs[f]? =some fn) (hb:fn.body=some body) (hent:PL.ent P f=true) {h:Hn} {ow:List (List Nat)} {ps rs:List VT} {x:XS T ps} {r:RT T rs}
 (hr:ZI Γ n fn body h ow ps rs x=some r):Je P I f (EO ps x) (CR ow rs r) (BL ow 0 rs r):=by
 unfold ZI at hr
 split at hr
 ·rename_i hl
  obtain⟨H,hw⟩:=U9 (args:=IS ps x) (n:=fn.ntmps) (fun H=>R7 ps x)
  refine Je.of hsta hent hf hb (Sa _ _ _ _ _ (by simp)) fun F hI=>?_
  rw [←NR, ←Pb (by simpa using hl)]
  refine Eo hfol (Wi hfol n) body h _ H _ _ r hw hr F _ hI fun H' e st' n q=>?_
  have fin:cY P st' ow rs fn.results.toList _ (fun a=>match Jb a.2 with | true=>some a.1 | false=>none)=some r→mj P st'.toSt fn.results.toList (CR ow rs r) (BL ow 0 rs r):=by
   intro q
   obtain⟨a,⟨h1,⟨k,h2⟩,h3,h4⟩,h5⟩:=Wl n.ok ow rs fn.results.toList _ _ r q
   split at h5
   ·rename_i hnd
    injection h5 with h5
    subst h5
    have hlen:(BL ow 0 rs a.1).length =fn.results.toList.length:=by rw [D0];omega
    refine⟨a.2,h2.ns,FZ hnd,(Vc (w:=default) (G:=im fun _=>False) (v:=Go.undef) (ids:=a.2) hlen h1 (fun us hu=>?_)).1,fun w G v hv=>(Vc hlen h1 (fun us hu=>?_)).2 hv,h2.so⟩
    ·have:=h4 [] [] _ _ us hu
     simpa using this
    ·have:=h4 [] [] _ _ us hu
     simpa using this
   ·cases h5
  cases e<;>simp only [jH]at q ⊢ <;>first
   | exact⟨by simp,fin q⟩
   | (cases q;done)
 ·cases hr
theorem X7 {pre:List OE} {n:OE} {post:List OE}:(pre++([n]++post))[pre.length]? =some n:=by simp
theorem Vd (m:Nat) (k:Kd) (x:KA T.den k) (pre post:List OE):(K4 m pre.length k x).frz (pre++(Hx m k x++post))=Bd T.enc k x:=by
 cases k with
 | lst E=>
   match m with
   | 0=>rfl
   | _+3=>rfl
   | 1=>
     show PC.frz _ (.o pre.length)=_
     simp only [PC.frz,Hx,X7]
     rfl
   | 2=>
     show PC.frz _ (.o pre.length)=_
     simp only [PC.frz,Hx,X7,OE.frz]
     exact congrArg (C.sl _) (LR E _ 0 x)
 | _=>rfl
theorem NS: ∀ (ms:List Nat) (ks:List Kd) (x:DK T.den ks) (pre post:List OE),(Ek ms pre.length ks x).map (PC.frz (pre++(B8 ms ks x++post)))=Bv T.enc ks x
 | [],[],_,_,_=>by simp [Ek,Bv]
 | _::_,[],_,_,_=>by simp [Ek,Bv]
 | [],k::ks,x,pre,post=>by
   have:=NS [] ks x.2 pre post
   rw [HE]at this ⊢
   simp only [Ek,List.map_cons,Bv,PC.frz,this]
 | m::ms,k::ks,x,pre,post=>by
   have h1:=Vd m k x.1 pre (B8 ms ks x.2++post)
   have h2:=NS ms ks x.2 (pre++Hx m k x.1) post
   rw [List.length_append,(IQ m [] k x.1).1,(IQ m [] k x.1).2]at h2
   simp only [Ek,B8,List.map_cons,Bv,List.append_assoc]at h1 h2 ⊢
   rw [h1,h2]
theorem KO (m:List Nat) (t:VT) (x:DA T t) (pre post:List OE):(Gz m pre.length t x).frz (pre++(B8 m (C5 T t) (JJ t x)++post))=DB t x:=by
 cases t with
 | k kd=>
   simp only [Gz,PP.frz,DB,C5,JJ]
   have e1:B8 m [kd] ((x,()):DK T.den [kd])=Hx (m.headD 0) kd x:=by
    cases m with
    | nil=>simp only [B8,List.headD_nil];unfold Hx;cases kd<;>rfl
    | cons y m=>cases m<;>simp [B8]
   rw [e1]
   exact congrArg V.c (Vd (m.headD 0) kd x pre post)
 | s E=>
   simp only [Gz,PP.frz,DB,C5,JJ,NS]
   exact congrArg V.agg (T.encok E x)
 | f g=>rfl
theorem NU: ∀ (ow:List (List Nat)) (ts:List VT) (x:RT T ts) (pre post:List OE),(BL ow pre.length ts x).map (PP.frz (pre++(CR ow ts x++post)))=B7 ts x
 | [],[],_,_,_=>by simp [BL,B7]
 | _::_,[],_,_,_=>by simp [BL,B7]
 | [],[t],x,pre,post=>by
   have:=KO [] t x pre post
   rw [HE]at this
   simp only [BL,CR,List.map_cons,List.map_nil,B7,this]
 | m::ms,[t],x,pre,post=>by
   have:=KO m t x pre post
   simp only [BL,CR,List.map_cons,List.map_nil,B7,this]
 | [],t::u::ts,x,pre,post=>by
   have h1:=KO [] t x.1 pre post
   rw [HE]at h1
   have e:CR [] (u::ts) x.2=[]:=by cases ts<;>rfl
   have h2:=NU [] (u::ts) x.2 pre post
   rw [e]at h2
   simp only [BL,CR,List.map_cons,B7,h1,h2]
 | m::ms,t::u::ts,x,pre,post=>by
   have h1:=KO m t x.1 pre (CR ms (u::ts) x.2++post)
   have h2:=NU ms (u::ts) x.2 (pre++B8 m (C5 T t) (JJ t x.1)) post
   rw [List.length_append,LU]at h2
   simp only [BL,CR,List.map_cons,B7,List.append_assoc]at h1 h2 ⊢
   rw [h1,h2]
theorem X8 (ow:List (List Nat)) (ts:List VT) (x:RT T ts):cq (CR ow ts x) (BL ow 0 ts x)=GG ts x:=by
 have h:=NU ow ts x [] []
 simp only [List.length_nil,List.nil_append,List.append_nil]at h
 unfold cq
 match ts,x,h with
 | [],x,h=>
   split
   ·rename_i p hp
    have:=D0 (T:=T) ow 0 [] x
    rw [hp]at this;cases this
   ·simp only [GG];rw [h];simp only [B7]
 | [t],x,h=>
   split
   ·rename_i p hp
    rw [hp]at h
    simp only [List.map_cons,List.map_nil,B7,List.cons.injEq,and_true]at h
    exact h
   ·rename_i hne
    have:=D0 (T:=T) ow 0 [t] x
    match hp:BL ow 0 [t] x,this,hne with
    | [p],_,hne=>exact(hne p rfl).elim
    | [],h,_=>cases h
    | _::_::_,h,_=>simp at h
 | t::u::ts,x,h=>
   split
   ·rename_i p hp
    have:=D0 (T:=T) ow 0 (t::u::ts) x
    rw [hp]at this;simp at this
   ·simp only [GG];rw [h]
def fG (Γ:List (CE T P I)) (hsta:Hb I) (hfol:P.follows .mixedOrders =true) (n:Nat) (f:FuncId) (fn:Func) (body:Code) (h:Hn) (ow:List (List Nat)) (ps rs:List VT) (run:XS T ps→Option (RT T rs)) (hf:P.funcs[f]? =some fn) (hb:fn.body=some body)
    (heq:run=ZI Γ n fn body h ow ps rs) (hent:PL.ent P f=true:=by kernel_rfl):CE T P I where
 f:=f
 ps:=ps
 rs:=rs
 run:=run
 ok:=fun x r q=>by
  have hx:=fF (h:=h) hsta hfol hf hb hent (heq▸q)
  have:=hx.flat (by rw [X8];exact Vb _ _)
  rwa [X8]at this
 ow:=ow
 okx:=fun _ x r q=>fF (h:=h) hsta hfol hf hb hent (by rw [←heq];exact q)
end
end Go.PL
namespace Go.PL
open Go Go.RowKit
variable {T:Be}
theorem Bz.x {P:Program} {I:World→Prop} {f:FuncId} {args:List V} {E n L:Nat} {CS:List C} (h:Bz P I f args E n (fun len cs=>len=L∧cs=CS)):Je P I f args [⟨false,E,n,L,CS⟩] [.c (.o 0)]:=by
 refine⟨h.ent,rfl,fun w vs av hI hav hr=>(h.run w vs av hI hav hr).mono ?_⟩
 rintro e w' ⟨v,len,cs,us,he,⟨q1,q2⟩,hp,hl,hv,hb⟩
 subst q1 q2
 obtain⟨ob,hfr,hone,hv⟩: ∃ ob:Option Nat,(∀ b,ob=some b→w.heap.size≤b∧b<w'.heap.size)∧v.oneCell'=true∧((∃ p,v= .slice p 0 0∧len=0∧ob=none)∨(ob=v.ownBlock∧Ai w' (im fun b=>av b∨v.ownBlock=some b) cs us∧w'.ownsRow w.heap.size E n v len us)):=by
  rcases hv with ⟨p,q1,q2⟩ | ⟨hrl,hown⟩
  ·exact⟨none,fun b q=>(by cases q),by rw [q1];rfl, .inl ⟨p,q1,q2,rfl⟩⟩
  ·refine⟨v.ownBlock,fun b hb'=>hown.lt b hb',?_, .inr ⟨rfl,hrl,hown⟩⟩
   rcases hown.2 with ⟨q,_⟩ | ⟨g,cap,cur,q,_⟩<;>rw [q]<;>rfl
 let G:Ay:=⟨fun i=>if i=[0]then ob else none,fun i=>if i=[0]then some v else none,fun b=>av b∨ob=some b⟩
 have hblk: ∀ i b,G.blk i=some b→i=[0]∧ob=some b:=fun i b q=>by
  simp only [G]at q
  split at q
  ·rename_i e;exact⟨e,q⟩
  ·cases q
 refine⟨v,[[0]],G,he,rfl,by simp,?_,?_,?_,?_,?_,hb⟩
 ·simp only [JH,PP.toV,PC.toC,Ab,List.getD_cons_zero,Ad]
  exact⟨by simp [G],hone⟩
 ·intro e0 he0
  simp only [Cr,OE.ent,List.mem_singleton]at he0
  subst he0
  refine⟨GZ rfl ⟨hl,v,by simp [G],?_⟩,⟨rfl,fun q=>by cases q⟩,hp⟩
  rcases hv with ⟨p,q1,h0,q2⟩ | ⟨q1,hrl,hown⟩
  ·exact .inl ⟨p,q1,h0,by simp [G,q2]⟩
  ·rcases hown.2 with ⟨q,h0⟩ | ⟨g,cap,cur,q,_,k2,k3,k4,k5,k6⟩
   ·exact .inl ⟨none,q,h0,by simp [G,q1,q,Value.ownBlock]⟩
   ·refine .inr ⟨g,cap,cur,q,by simp [G,q1,q,Value.ownBlock],k2,k3,k4,k5,?_⟩
    have hr2:Ai w' G cs us:=Ai.mono (G:=im fun b=>av b∨v.ownBlock=some b) ⟨Nat.le_refl _,fun _ _ _=>rfl,fun b _ hw=>by
     have hw:av b∨ob=some b:=hw
     rw [q1]at hw;exact hw,fun _ _ _ _=>BX.same rfl⟩ _ _ (fun i hi=>absurd (show BE i cs=true from hi) (by rw [AG i cs hp];simp)) hrl
    exact Ak.of_list (vs:=us) hr2 (By k2 (rest:=cur.toList.drop (len*n)) (by rw [←k6,List.take_append_drop]))
 ·intro i j b hi hj
  rw [(hblk i b hi).1,(hblk j b hj).1]
 ·intro i b hi
  exact hfr b (hblk i b hi).2
 ·intro b
  constructor
  ·rintro(q | q)
   ·exact .inl q
   ·exact .inr ⟨[0],by simp only [G,if_true];exact q⟩
  ·rintro(q | ⟨i,hi⟩)
   ·exact .inl q
   ·exact .inr (hblk i b hi).2
def Pr {P:Program} {I:World→Prop} (f:FuncId) (ps:List VT) (E:Nat) (run:XS T ps→Option (RT T [.k (.lst E)])) (h: ∀ x r,run x=some r→Bz P I f (EO ps x) E (T.sz E) (fun len cs=>len=List.length (α:=T.den E) r∧cs=List.flatMap (T.enc E) r)):CE T P I where
 f:=f
 ps:=ps
 rs:=[.k (.lst E)]
 run:=run
 ok:=fun x r hr=>Bz.flat (h x r hr)
 ow:=[[1]]
 okx:=fun _ x r hr=>(h x r hr).x
end Go.PL
namespace Go.PL
open Go Go.RowKit Go.Proofs
theorem CT (b:Nat): ∀ (vs:List Value) (o:Nat) (w:World),(w.setCells b o vs).heap.size =w.heap.size∧(w.setCells b o vs).os =w.os∧(w.setCells b o vs).tape =w.tape∧(w.setCells b o vs).output =w.output∧
 ∀ k,k ≠ b→(w.setCells b o vs).heap[k]? =w.heap[k]?
 | [],_,_=>⟨rfl,rfl,rfl,rfl,fun _ _=>rfl⟩
 | v::r,o,w=>by
   obtain⟨a1,a2,a3,a4,a5⟩:=CT b r (o+1) (w.setCell ⟨b,o,none⟩ v)
   rw [World.setCells]
   refine⟨a1.trans (by simp),a2,a3,a4,fun k hk=>(a5 k hk).trans ?_⟩
   simp [World.setCell,Array.getElem?_modify,Ne.symm hk]
theorem Df (b:Nat): ∀ (vs:List Value) (o:Nat) (w:World) (cur:Array Value) (T:TypeId) (fz:Nat×Nat),w.heap[b]? =some (.cells cur T fz)→o+vs.length≤cur.size→
 ∃ cur',(w.setCells b o vs).heap[b]? =some (.cells cur' T fz)∧cur'.toList=cur.toList.take o++vs++cur.toList.drop (o+vs.length)
 | [],o,w,cur,T,fz,h,_=>⟨cur,h,by simp⟩
 | v::r,o,w,cur,T,fz,h,hl=>by
   simp only [List.length_cons]at hl
   have h1:(w.setCell ⟨b,o,none⟩ v).heap[b]? =some (.cells (cur.setIfInBounds o v) T fz):=by
    have hlt:b<w.heap.size:=(Array.getElem?_eq_some_iff.1 h).1
    have hv:w.heap[b]= .cells cur T fz:=(Array.getElem?_eq_some_iff.1 h).2
    unfold World.setCell
    rw [Array.getElem?_eq_getElem (by simpa using hlt),Array.getElem_modify]
    simp [hv]
   obtain⟨cur',g1,g2⟩:=Df b r (o+1) _ _ T fz h1 (by simp;omega)
   refine⟨cur',g1,g2.trans ?_⟩
   have ho:o<cur.toList.length:=by simp;omega
   rw [Array.toList_setIfInBounds,List.take_set,List.drop_set_of_lt (by omega),List.length_cons]
   rw [List.take_succ_eq_append_getElem ho]
   rw [List.set_append_right _ _ (by simp;omega)]
   simp only [List.length_take,Nat.min_eq_left (Nat.le_of_lt ho),Nat.sub_self,List.set_cons_zero,List.append_assoc,List.cons_append,List.nil_append]
   rw [show o+1+r.length=o+(r.length+1) by omega]
theorem da {α:Type} {A cs vs R:List α} {i m n:Nat} (hA:A.take i=cs.take i) (hi:i≤n) (hc:cs.length=n) (hv:vs.length=m) (hl:n+m≤A.length):
 (((A.take (i+m)++cs.drop i++R).take i++vs++(A.take (i+m)++cs.drop i++R).drop (i+m)).take (n+m))=cs.take i++vs++cs.drop i:=by
 have l1:(A.take (i+m)).length =i+m:=by rw [List.length_take];omega
 have e1:(A.take (i+m)++cs.drop i++R).take i=cs.take i:=by
  rw [List.append_assoc,List.take_append_of_le_length (by omega),List.take_take,Nat.min_eq_left (by omega),hA]
 have e2:(A.take (i+m)++cs.drop i++R).drop (i+m)=cs.drop i++R:=by
  rw [List.append_assoc,List.drop_append_of_le_length (by omega),List.drop_of_length_le (by omega),List.nil_append]
 rw [e1,e2, ←List.append_assoc]
 have l2:(cs.take i++vs++cs.drop i).length =n+m:=by simp only [List.length_append,List.length_take,List.length_drop];omega
 rw [←l2];exact List.take_left
theorem db {α:Type} {A cs vs R:List α} {i m n:Nat} (hA:A.take i=cs.take i) (hi:i≤n) (hc:cs.length=n) (hv:vs.length=m) (hl:n+m≤A.length):
 (((A.take i++vs++A.drop (i+m)).take (i+m)++cs.drop i++R).take (n+m))=cs.take i++vs++cs.drop i:=by
 have l1:(cs.take i++vs).length =i+m:=by simp only [List.length_append,List.length_take];omega
 rw [hA]
 have e1:(cs.take i++vs++A.drop (i+m)).take (i+m)=cs.take i++vs:=by rw [←l1];exact List.take_left
 rw [e1]
 have l2:(cs.take i++vs++cs.drop i).length =n+m:=by simp only [List.length_append,List.length_take,List.length_drop];omega
 rw [←l2];exact List.take_left
theorem OT.of {P:Program} {ρ:Go.Shelf.Ren} (L:Lays2.n21 P ρ):OT P (ρ.f 21) (ρ.t 3):=by
 intro w v n i vb m vc xs us cur T row hv hin hm ox ou hul hbig hmv hvc hne hvb hvs
 have hus: ∀ j u,us[j]? =some u→w.cell? ⟨vb,0+j,none⟩=some u:=by
  intro j u hj
  rw [←hvs]at hj
  have hj':cur[j]? =some u:=by
   rw [List.getElem?_take]at hj
   split at hj
   ·rwa [Array.getElem?_toList]at hj
   ·cases hj
  simp [World.cell?,hvb,hj']
 have hvl:=hul
 have grow: ∀ (base:Option Addr) (c:Nat),i=n→v= .slice base n c→n≤c→c<n+m→(base=none→n=0)→xs.length=n→(∀ a,base=some a→ ∀ j u,xs[j]? =some u→w.cell? (a.add j)=some u)→
  Calls P (ρ.f 21) #[v, .int .i64 i, .slice (some ⟨vb,0,none⟩) m vc] w fun e w'=> ∃ v',e= .returned v'∧w'.ownsRow 0 (ρ.t 3) 1 v' (n+m) (xs.take i++us++xs.drop i)∧
   w.grownBy w' row∧(v'.ownBlock=row∨ ∀ b,v'.ownBlock=some b→w.heap.size≤b):=by
  intro base c hi hv hnc hc hb hx hcs
  subst hi hv
  refine(Any2.slices_Insert_int_end_grow L base i c vb 0 m vc xs us w hm hnc hc hbig (by simpa using hx) hvl hb hcs hus ou).mono fun e w' ⟨he,hw⟩=>?_
  refine⟨_,he,?_,?_, .inr fun b hb=>by simp [Value.ownBlock]at hb;omega⟩
  ·rw [hw]
   have hge:=grownCap_ge w (i+m) c (ρ.t 3)
   refine⟨by simp;omega, .inr ⟨w.heap.size,_,_,rfl,Nat.zero_le _,heap_alloc_new w.drew _,hge,grownCap_le_maxLen w (i+m) c (ρ.t 3) (by unfold maxLen;omega),?_,?_⟩⟩
   ·simp [Builtin.zeroCells,Value.cells];omega
   ·simp only [Array.toList_append,Nat.mul_one]
    rw [List.take_append_of_le_length (by simp;omega),List.take_of_length_le (by simp;omega),List.take_of_length_le (by omega),List.drop_of_length_le (by omega)]
    simp
  ·rw [hw]
   exact⟨rfl,rfl,rfl,by simp,fun k hk _=>heap_alloc_old w.drew _ hk⟩
 rcases hv with ⟨hown,hrow⟩ | ⟨p,hv,hn,hx,hrow⟩
 ·rcases hown.2 with ⟨hv,hn⟩ | ⟨g,cap,cu,hv,hbg,hg,hnc,hcm,hcs,htake⟩
  ·exact grow none 0 (by omega) (by rw [hv,hn]) (by omega) (by omega) (fun _=>hn) (by have:=hown.1;simpa using this) (fun a ha=>by cases ha)
  ·have hx:xs.length=n:=by have:=hown.1;simpa using this
   have hrow':row=some g:=by rw [hrow,hv];rfl
   have hne':vb ≠ g:=fun q=>hne (by rw [hrow',q])
   simp only [Nat.mul_one]at hcs htake
   have hcell: ∀ j u,xs[j]? =some u→w.cell? ((⟨g,0,none⟩:Addr).add j)=some u:=hown.cells (g:=g) (by rw [hv];rfl)
   have hcell': ∀ j u,xs[j]? =some u→w.cell? ⟨g,0+j,none⟩=some u:=fun j u hj=>by have:=hcell j u hj;rwa [Addr.add_lit]at this
   have hsome: ∀ j,j<cap→(w.cell? ⟨g,j,none⟩).isSome =true:=fun j hj=>by
    simp [World.cell?,hg,show j<cu.size by omega]
   have hfz: ∀ j,w.frozen? ⟨g,j,none⟩=false:=fun j=>by simp [World.frozen?,hg]
   have hfv: ∀ j,w.frozen? ⟨vb,j,none⟩=false:=fun j=>by simp [World.frozen?,hvb]
   have finish: ∀ (w':World) (c':Array Value),w'.heap[g]? =some (.cells c' (ρ.t 3) (0,0))→c'.toList.length=cap→n+m≤cap→c'.toList.take (n+m)=(xs.take i++us++xs.drop i)→
    w'.ownsRow 0 (ρ.t 3) 1 (.slice (some ⟨g,0,none⟩) (n+m) cap) (n+m) (xs.take i++us++xs.drop i):=fun w' c' h1 h2 h3 h4=>
    ⟨by simp;omega, .inr ⟨g,cap,c',rfl,Nat.zero_le _,h1,h3,hcm,by simpa using h2,by simpa using h4⟩⟩
   by_cases hroom:n+m≤cap
   ·by_cases hi:i=n
    ·subst hi hv
     refine(Any2.slices_Insert_int_end_room L g 0 i cap vb 0 m vc us w hm hroom (by unfold maxLen at hcm;omega) hvl (fun j hj=>hsome _ (by omega)) (fun j _=>hfz _) hus ou).mono fun e w' ⟨he,hw⟩=>?_
     obtain⟨f1,f2,f3,f4,f5⟩:=CT g us (0+i) w
     obtain⟨c',g1,g2⟩:=Df g us (0+i) w cu _ _ hg (by rw [hvl];omega)
     rw [←hw]at f1 f2 f3 f4 f5 g1
     refine⟨_,he,finish w' c' g1 ?_ hroom ?_,⟨f2,f3,f4,by omega,fun k _ hk=>f5 k fun q=>hk (by rw [hrow',q])⟩, .inl (by rw [hrow'];rfl)⟩
     ·rw [g2];simp;omega
     ·rw [g2,Nat.zero_add,htake,List.take_append_of_le_length (by simp;omega),List.take_of_length_le (by simp;omega),List.take_of_length_le (by omega),List.drop_of_length_le (by omega)]
      simp
    ·subst hv
     refine(Any2.slices_Insert_int_shift L g 0 n cap i vb 0 m vc xs us w (by omega) hm hroom (by unfold maxLen at hcm;omega) hne' (by simpa using hx) hvl hcell' (fun j hj=>hsome _ (by omega)) (fun j _=>hfz _) hus ox ou
      T (ρ.t 3) vc cap (by simp [World.shape?,hvb,hvc]) (by simp [World.shape?,hg,hcs]) (by omega) (hfv _) (hfv _)).mono fun e w' ⟨he,hw⟩=>?_
     have hdl:(xs.drop i).length =n - i:=by rw [List.length_drop,hx]
     obtain⟨f1,f2,f3,f4,f5⟩:=CT g (xs.drop i) (0+(i+m)) w.drew
     obtain⟨c1,g1,g2⟩:=Df g (xs.drop i) (0+(i+m)) w.drew cu _ _ hg (by rw [hdl];omega)
     obtain⟨k1,k2,k3,k4,k5⟩:=CT g us (0+i) (w.drew.setCells g (0+(i+m)) (xs.drop i))
     have hc1:c1.toList.length=cap:=by rw [g2];simp only [List.length_append,List.length_take,List.length_drop,Array.length_toList];omega
     obtain⟨c2,e1,e2⟩:=Df g us (0+i) _ c1 _ _ g1 (by rw [hvl];simp only [Array.length_toList]at hc1;omega)
     rw [←hw]at k1 k2 k3 k4 k5 e1
     refine⟨_,he,finish w' c2 e1 ?_ hroom ?_,⟨k2.trans f2,k3.trans f3,k4.trans f4,by rw [k1,f1];exact Nat.le_refl _,fun k _ hk=>(k5 k fun q=>hk (by rw [hrow',q])).trans (f5 k fun q=>hk (by rw [hrow',q]))⟩, .inl (by rw [hrow'];rfl)⟩
     ·rw [e2];simp only [List.length_append,List.length_take,List.length_drop];omega
     ·rw [e2,g2,Nat.zero_add,Nat.zero_add,hvl]
      rw [da (A:=cu.toList) (cs:=xs) (by rw [←htake,List.take_take,Nat.min_eq_left (by omega)]) (by omega) (by simpa using hx) hvl (by simp;omega)]
   ·by_cases hi:i=n
    ·exact grow (some ⟨g,0,none⟩) cap hi hv hnc (by omega) (fun q=>by cases q) hx (fun a ha=>by cases ha;exact hcell)
    ·subst hv
     refine(Any2.slices_Insert_int_grow L g 0 n cap i vb 0 m vc xs us w (by omega) hm hnc (by omega) hbig (by simpa using hx) hvl hcell' hus ox ou).mono fun e w' ⟨he,hw⟩=>?_
     have hge:=grownCap_ge w (n+m) cap (ρ.t 3)
     have hcm2:=grownCap_le_maxLen w (n+m) cap (ρ.t 3) (by unfold maxLen;omega)
     obtain⟨C,hC⟩: ∃ C,C=grownCap w (n+m) cap (ρ.t 3):=⟨_,rfl⟩
     rw [←hC]at he hw hge hcm2
     obtain⟨ROW,hROW⟩: ∃ ROW:Array Value,ROW=(xs.take i).toArray ++Builtin.zeroCells (Value.int .i64 0).cells (n+m - i)++Builtin.zeroCells (Value.int .i64 0).cells (C - (n+m)):=⟨_,rfl⟩
     rw [←hROW]at hw
     have hRs:ROW.size=C:=by rw [hROW];simp [Builtin.zeroCells,Value.cells];omega
     have hRt:ROW.toList.take i=xs.take i:=by
      rw [hROW]
      simp only [Array.toList_append,List.append_assoc]
      rw [List.take_append_of_le_length (by simp;omega),List.take_of_length_le (by simp;omega)]
     have h0:(w.alloc (.cells ROW (ρ.t 3))).drew.heap[w.heap.size]? =some (.cells ROW (ρ.t 3) (0,0)):=heap_alloc_new w _
     obtain⟨W1,hW1⟩: ∃ W1,W1=(w.alloc (.cells ROW (ρ.t 3))).drew :=⟨_,rfl⟩
     have hfr1:W1.heap.size=w.heap.size+1∧W1.os=w.os∧W1.tape=w.tape∧W1.output=w.output∧ ∀ k,k<w.heap.size→W1.heap[k]? =w.heap[k]? :=by
      rw [hW1];exact⟨by simp,rfl,rfl,rfl,fun k hk=>heap_alloc_old w _ hk⟩
     rw [←hW1]at hw h0
     have hdl:(xs.drop i).length =n - i:=by rw [List.length_drop,hx]
     obtain⟨f1,f2,f3,f4,f5⟩:=CT w.heap.size us i W1
     obtain⟨c1,g1,g2⟩:=Df w.heap.size us i W1 ROW _ _ h0 (by rw [hvl];omega)
     obtain⟨k1,k2,k3,k4,k5⟩:=CT w.heap.size (xs.drop i) (i+m) (W1.setCells w.heap.size i us).drew
     have hc1:c1.toList.length=C:=by rw [g2];simp only [List.length_append,List.length_take,List.length_drop,Array.length_toList];omega
     obtain⟨c2,e1,e2⟩:=Df w.heap.size (xs.drop i) (i+m) (W1.setCells w.heap.size i us).drew c1 _ _ g1 (by rw [hdl];simp only [Array.length_toList]at hc1;omega)
     rw [←hw]at k1 k2 k3 k4 k5 e1
     refine⟨_,he,⟨by simp;omega, .inr ⟨w.heap.size,C,c2,rfl,Nat.zero_le _,e1,hge,hcm2,?_,?_⟩⟩,⟨k2.trans (f2.trans hfr1.2.1),k3.trans (f3.trans hfr1.2.2.1),k4.trans (f4.trans hfr1.2.2.2.1),?_,fun k hk _=>?_⟩, .inr fun b hb=>by simp [Value.ownBlock]at hb;omega⟩
     ·rw [Nat.mul_one, ←Array.length_toList,e2];simp only [List.length_append,List.length_take,List.length_drop];omega
     ·rw [Nat.mul_one,e2,g2,hvl]
      rw [db (A:=ROW.toList) (cs:=xs) hRt (by omega) (by simpa using hx) hvl (by simp;omega)]
     ·rw [k1];show w.heap.size≤(W1.setCells w.heap.size i us).heap.size
      rw [f1];omega
     ·rw [k5 k (by omega)]
      exact(f5 k (by omega)).trans (hfr1.2.2.2.2 k hk)
 ·subst hx
  exact grow (some p) 0 (by omega) (by rw [hv,hn]) (by omega) (by omega) (fun q=>by cases q) (by rw [hn];rfl) (fun a _ j u hj=>by simp at hj)
end Go.PL
namespace Go.PL
open Go Go.RowKit
section
variable {P:Program} {I:World→Prop} {o:Oper} {st:St} {K:St→Prop}
end
end Go.PL
namespace Go.PL
open Go
theorem AA {x:Int} (h0: -9223372036854775808≤x) (h1:x≤9223372036854775807):Al x=x:=by
 unfold Al;rw [IntKind.wrap_i64];omega
theorem ZJ {x:Int} (h0:0≤x) (h1:x≤18446744073709551615):IntKind.u64.wrap x=x:=by
 unfold IntKind.wrap
 simp only [IntKind.bits,IntKind.signed,Bool.false_and]
 simp
 omega
theorem ZK (x:Int):0≤IntKind.u64.wrap x∧IntKind.u64.wrap x≤18446744073709551615:=by
 unfold IntKind.wrap
 simp only [IntKind.bits,IntKind.signed,Bool.false_and]
 simp
 omega
section
variable {σ ρ:Type} {B:σ→Option (σ⊕ρ)}
theorem Ju {n:Nat} {s s':σ} (h:B s=some (.inl s')):iter B (n+1) s=iter B n s':=by simp [iter,h]
theorem Fa {n:Nat} {s:σ} {r:ρ} (h:B s=some (.inr r)):iter B (n+1) s=some r:=by simp [iter,h]
theorem X9 {S:Nat→σ} {r:ρ} {j:Nat} (hs: ∀ i,i<j→B (S i)=some (.inl (S (i+1)))) (he:B (S j)=some (.inr r)): ∀ (k N i:Nat),i+k=j→k<N→iter B N (S i)=some r
 | 0,N+1,i,hi,_=>by obtain rfl:i=j:=by omega
                    exact Fa he
 | k+1,N+1,i,hi,hN=>by rw [Ju (hs i (by omega))];exact X9 hs he k N (i+1) (by omega) (by omega)
theorem GK (S:Nat→σ) {r:ρ} (j:Nat) (hj:j<9223372036854775807) (hs: ∀ i,i<j→B (S i)=some (.inl (S (i+1)))) (he:B (S j)=some (.inr r)) {s0:σ} (h0:s0=S 0):iter B FU s0=some r:=by
 subst h0;exact X9 hs he j FU 0 (by omega) hj
end
section
variable {α:Type} [Inhabited α] {l:List α} {i:Int}
theorem fH (h:0≤i∧i<l.length):AN l i=some (l.getD i.toNat default):=if_pos h
theorem Bl {k:Nat} (h:k<l.length):AN l (k:Int)=some l[k]:=by
 rw [fH ⟨by omega,by omega⟩]
 simp [List.getD_eq_getElem?_getD,h]
theorem Wm (o:Option α):gd true o=o:=if_pos rfl
end
theorem fI {α:Type} {b:Nat} {l m:List α} (h:(l.length+m.length)*b≤140737488355328∧l.length+m.length≤maxLen):EW b l m=some (l++m):=if_pos h
theorem FF {p:Prop} [Decidable p] (h:p):AS p=some ():=if_pos h
end Go.PL
namespace Go.PL
open Go Go.RowKit Go.WideShapes Go.ChangeShapes
def oC (k:IntKind) (v:Int):Prop:=(Lit.int k v).wf =true
section
variable {P:Program} {t e:TypeId} {n:Nat} {cs:List C}
theorem dI {k:IntKind} (hu:P.underlying t=some (.int k)) (h:Hd P n t cs): ∃ z,cs=eI k z∧oC k z:=bP hu h
end
section
variable {R:TypeId→List C→Prop}
end
section
variable {H:Type} {enc:TypeId×Value→H} {P:Program} {W:World} {spare:Nat→Bool} {r:Reach} {base:Nat} {t:TypeId} {v:Value} {d:DataW H} {ps:List MemPlace}
theorem LV {ts:List TypeId} {ds:List (DataW H)} (h:(DataW.weightsEach P (t::ts) (d::ds)).all (· ≤reachBytes)=true):(d.weights P t).all (· ≤reachBytes)=true∧(DataW.weightsEach P ts ds).all (· ≤reachBytes)=true:=by
 simpa only [DataW.weightsEach,List.all_append,Bool.and_eq_true] using h
theorem iQ {α:Type} {e:α→C} {ok:α→Prop} (k:Nat) (hk:gn P k t=true) (hd: ∀ {n cs},Hd P n t cs→ ∃ x,cs=[e x]∧ok x)
 (hc:v.cells.toList=[v]) (h:DataW.Trod enc P W 0 spare true t v d ps) (hw:(d.weights P t).all (· ≤reachBytes)=true): ∃ x,ok x∧Ab W (im fun _=>False) (.c (e x)) v:=by
 obtain⟨fuel,h⟩:=h
 obtain⟨cs,h1,h2,_⟩:=JX (G:=im fun _=>False) (fun _ _ h=>h) k t hk fuel _ _ h hw
 obtain⟨x,rfl,h4⟩:=hd h2
 rw [hc]at h1
 simp only [Ai]at h1
 exact⟨x,h4,by simp only [Ab];exact h1.1⟩
theorem Wn {k:IntKind} (n:Nat) (hk:gn P n t=true) (hu:P.underlying t=some (.int k))
 (hv:Value.okWide P W r base t v) (h:DataW.Trod enc P W 0 spare true t v d ps) (hw:(d.weights P t).all (· ≤reachBytes)=true): ∃ x,oC k x∧Ab W (im fun _=>False) (.c (.int k x)) v:=by
 obtain⟨z,rfl⟩:=okWide_int hu hv
 exact iQ (e:=fun x=> .int k x) n hk (dI hu) rfl h hw
end
end Go.PL
namespace Go.PL
open Go
def W {α:Type} (o:Option α) (Q:α→Prop):Prop:= ∃ r,o=some r∧Q r
section
variable {α β σ ρ:Type} {o:Option α} {P Q':α→Prop} {f:α→Option β} {Q:β→Prop} {v:α} {g c:Bool}
end
end Go.PL
namespace Go.PL
open Go
set_option linter.all false
section
variable {α:Type} [Inhabited α] [DecidableEq α] {l m:List α} {B:Int→Option (Int⊕(Unit⊕Unit))}
end
section
variable {α:Type} [Inhabited α] [DecidableEq α] {l m:List α} {B:Int→Option (Int⊕(Unit⊕Unit))}
end
abbrev T {α:Type} (o:Option α):Prop:= ∃ r,o=some r
theorem LW {α:Type} {b:Nat} {l m:List α} (h:(l.length+m.length)*b≤140737488355328) (hb:1≤b):EW b l m=some (l++m):=by
 refine fI ⟨h,?_⟩
 have:(l.length+m.length)*1≤(l.length+m.length)*b:=Nat.mul_le_mul_left _ hb
 unfold maxLen
 omega
end Go.PL
namespace Go.PL
open Go Go.Lib
set_option linter.all false
end Go.PL
namespace Go.PL
open Go
theorem LX {a b:Bool} (h:a=true) (k:b=true):(a&&b)=true:=by rw [h,k];rfl
theorem dc {P:Program} {f:FuncId} {fn:Func} {s:ChangeSpec} {c:OpenClaim} (h0:(c.wf (OpenSpec.ofChange s))=true) (h1:(laidOutB P)=true) (h2:(mapsRowed P)=true) (h3:(fn.params.all (P.readableRec ·))=true) (h4:(namedTie P c.named s.vars)=true) (h5:((c.stops==[]))=true) (h6:((P.stops==[]))=true) (h7:((c.knobs==[]))=true) (h8:((P.stopKnobs==[]))=true) (h9:((c.inPlace==P.inPlace f))=true) (h10:((c.unfollowed==P.unfollowed f))=true) (h11:((c.recurses==P.recurses f))=true) (h12:((c.named==P.varsNamed f))=true) (h13:((c.maps==(fn.params.toList++s.plain.varTypes P).any (P.mapsRec ·)))=true) (h14:((c.ifaces==(fn.params.toList++s.plain.varTypes P).any (P.ifacesRec ·)))=true) (h15:((c.mapsOut==P.mapsAmong fn.resultTypes.toList))=true) (h16:((c.loops==(fn.params.toList++s.plain.varTypes P).any (P.loopsFrom ·)))=true) (h17:((c.wideKeys==(fn.params.toList++s.plain.varTypes P++fn.resultTypes.toList).any (P.wideKeysFrom ·)))=true) (h18:(s.vars.all (P.varReadable ·))=true) (h19:(fn.resultTypes.all (fun t=>P.readableRec t&&decide (t<P.types.size)))=true) (h20:((c.ifacesOut==fn.resultTypes.toList.any (P.ifacesRec ·)))=true) (h21:((c.loopsOut==fn.resultTypes.toList.any (P.loopsFrom ·)))=true) (h22:((c.plainKeys==P.plainKeys))=true) (h23:(c.shortTexts.isNone)=true) (h24:(P.stopsHeard)=true) (h25:(P.mayEnter)=true) (h26:((c.lifted==P.liftsFinal))=true) (h27:((P.make==some c.make))=true) (h28:(c.domain.isEmpty&&(c.kinds==[]))=true) (h29:((c.pinned==c.pinnedBy))=true) (h30:((c.veiled==(fn.params.toList++s.plain.varTypes P++fn.resultTypes.toList).any (P.veiledRec ·)))=true) (h31:(c.veiledFits P fn.params.toList (fn.params.toList++s.plain.varTypes P++fn.resultTypes.toList))=true):joinedFacts P f fn s c=true:=by
 obtain⟨d1,d2⟩:=(Bool.and_eq_true _ _▸h28:_∧_)
 unfold joinedFacts
 rw [if_pos d1]
 exact(LX (LX (LX (LX (LX (LX (LX (LX (LX (LX (LX (LX (LX (LX (LX (LX (LX (LX (LX (LX (LX (LX (LX (LX (LX (LX (LX (LX (LX (LX (LX h0 h1) h2) h3) h4) h5) h6) h7) h8) h9) h10) h11) h12) h13) h14) h15) h16) h17) h18) h19) h20) h21) h22) h23) h24) h25) h26) h27) d2) h29) h30) h31)
end Go.PL
namespace Go.PL
open Go
section
variable {H:Type} {enc:TypeId×Value→H}
theorem iR {a:Assume} {C:Checked} {os:Os} {f:FuncId} {fn:Func} {s:ChangeSpec} {conds:List PathCond} {apart fresh handsOn again:Bool} {X:World→Array Value→Prop}
 (hX: ∀ (w w':World) (args:Array Value),w.heap=w'.heap→X w args→X w' args)
 (own:ownKnob C.prog.godebug=none) (started:os.Started) (noInit:C.prog.inits.idxOf? f=none) (hfn:C.prog.funcs[f]? =some fn)
 (witness: ∃ (w:World) (tape:Tape) (i:Input),w.os=os∧(w.forCall tape i).Shaped C.prog∧i.vars=[]∧Input.okWide C.prog (w.forCall tape i) .any w.heap.size f i∧
  ((s.pre enc C.prog fn conds apart (w.forCall tape i).memory i.args∧X (w.forCall tape i).memory i.args)∧sizedMet enc C.prog fn (OpenSpec.ofChange s) apart (w.forCall tape i).memory i.args)∧a.holds C.prog (lone (Frame.enter C.prog f i.args .normal) [] (w.forCall tape i)))
 (contract: ∀ (W:World) (base:Nat) (args:Array Value) (ds gs:List (DataW H)) (before:List MemPlace),
  (∀ (j:Nat) t v,fn.params[j]? =some t→args[j]? =some v→Value.okWide C.prog W .any base t v)→
  DataW.Whole enc C.prog fn.params.toList s.vars apart W args.toList ds gs before→
  conds.all (PathCond.test C.prog ⟨fn.params.toList,ds,s.plain.varTypes C.prog,gs⟩)=true→
  (DataW.weightsEach C.prog (fn.params.toList++s.plain.varTypes C.prog) (ds++gs)).all (· ≤reachBytes)=true→X W args→W.ShapedOpen C.prog→
  a.holds C.prog (lone (Frame.enter C.prog f args .normal) [] W)→
  Calls C.prog f args W fun e W'=> ∃ v,e= .returned v∧s.post enc C.prog fn apart fresh handsOn again W args v W'):
 ReturnsInHanded a C os f .any (fun w args=>(s.pre enc C.prog fn conds apart w args∧X w args)∧sizedMet enc C.prog fn (OpenSpec.ofChange s) apart w args) (s.post enc C.prog fn apart fresh handsOn again):=by
 refine returnsInHanded_of_calls own started noInit witness ?_
 intro w tape i _ hsh _ hok hpre hholds
 obtain⟨_,_,_,fn',hfn',_,_,_,_,hval⟩:=hok
 have e:fn'=fn:=Option.some.inj (hfn'.symm.trans hfn)
 subst e
 obtain⟨⟨⟨ds,gs,before,hw,hc⟩,hx⟩,hz⟩:=hpre
 have hw':=DataW.Whole.of_heap (w':=w.forCall tape i) (by rfl) hw
 refine(contract (w.forCall tape i) w.heap.size i.args ds gs before hval hw' hc (hz.weights hw) (hX _ _ _ (by rfl) hx) hsh hholds).mono fun e W' ⟨v,he,hp⟩=>?_
 subst he
 exact ChangeSpec.post_blind hp
end
end Go.PL
