/- The pure logic: PlZ, PlPe, PlPf, PlPg, PlPh, PlPi, PlPj, PlPk, PlPm, PlPn, PlPo, PlPp, PlPr, PlPt, PlPv, PlPz, PlQa, Ta, Tb, Tc, Td, Te, Tf, Tg, Th, Ti, PlYa. -/
import Derived.Test.YtfmknfnfpeopeaaGreatDoorPlNtoPlY
import Derived.Lib.ConvBytes
import Derived.Lib.AtoiErrMem
import Derived.Laws.Cover3
import Derived.Scope
import Derived.Lib.AppendStr
import Derived.Lib.Builder
import Derived.Lib.UnsafeStr
import Derived.MapKept
set_option linter.all false
namespace Go.PL
open Go Go.RowKit
def kg (ids:List Ah) (st:St):St:={st with so:=ids.filterMap fun i=>st.so.find? fun e=>e.id==i}
theorem lV (ids:List Ah) (hn:ids.Nodup) (st:St):Ck st (kg ids st) where
 len:=rfl
 tm:=fun _=> .inr rfl
 so:=fun e he=>by
  simp only [kg,List.mem_filterMap]at he
  obtain⟨i,_,h⟩:=he
  exact List.mem_of_find?_eq_some h
 nd:=fun _=>by
  have: ∀ ids:List Ah,((ids.filterMap fun i=>st.so.find? fun e=>e.id==i).map (·.id)).Sublist ids:=by
   intro ids
   induction ids with
   | nil=>simp
   | cons i ids ih=>
     simp only [List.filterMap_cons]
     split
     ·exact ih.cons _
     ·rename_i e he
      have:=List.find?_some he
      simp only [beq_iff_eq]at this
      simp only [List.map_cons,this]
      exact ih.cons_cons _
  exact List.Sublist.nodup (this ids) hn
 gh:=⟨rfl,fun _=> .inr rfl⟩
 pre:=rfl
def om (P:Program) (I:World→Prop) (ops:Array Oper) (ss:List Stp) (ids:List Ah) (st:St) (i:Nat):Option (List Prop×St):=
 match ops[i]?,ss[i]? with
 | some o,some s=>match Xd P I false ops o s st with
   | some (c,st')=>some (c,kg ids st')
   | none=>none
 | _,_=>none
section
variable {P:Program} {F:Fr} {st:St} {ops:Array Oper}
theorem Uu {a:Act} {w:World} {G:Ay} (h:R F st a w G) {o:Oper} {K:St→Prop} {Q:Exit→Act→World→Prop} (hs:Uh P F.I ops o st K):
 if Region.wanted o (yielded ops a.tmps)=true then o.wp P a w (ah F K) Q else ah F K (a.put o.dst Go.undef) w:=by
 unfold Uh at hs
 split at hs
 ·rename_i hg
  rw [EJ hg,if_pos rfl]
  exact Kw h hs
 ·rename_i j want hg
  split at hs
  ·rename_i g hq
   rw [G8 h hg hq]
   exact Uj h hs
  ·exact hs.elim
end
end Go.PL
namespace Go.PL
open Go Go.RowKit
section
variable {P:Program} {I:World→Prop} {ops:Array Oper} {st st':St} {K:St→Prop}
theorem Uv: ∀ {l:List Oper} {n:Nat} {ss:List Stp} {st st':St} {cs:List Prop},GF P I false ops (l.take n) ss st=some (cs,st')→AH cs→Da P I ops (l.drop n) st' K→Da P I ops l st K
 | l,0,ss,st,st',cs,h,hc,hK=>by
   cases ss with
   | nil=>
     simp only [List.take_zero,GF,Option.some.injEq,Prod.mk.injEq]at h
     obtain⟨rfl,rfl⟩:=h
     simpa using hK
   | cons=>simp [GF]at h
 | [],n+1,ss,st,st',cs,h,hc,hK=>by
   cases ss with
   | nil=>
     simp only [List.take_nil,GF,Option.some.injEq,Prod.mk.injEq]at h
     obtain⟨rfl,rfl⟩:=h
     simpa using hK
   | cons=>simp [GF]at h
 | o::l,n+1,[],st,st',cs,h,hc,hK=>by simp [GF]at h
 | o::l,n+1,s::ss,st,st',cs,h,hc,hK=>by
   simp only [List.take_succ_cons,GF]at h
   split at h
   ·rename_i l1 st1 h1
    split at h
    ·rename_i l2 st2 h2
     simp only [Option.some.injEq,Prod.mk.injEq]at h
     obtain⟨rfl,rfl⟩:=h
     obtain⟨q1,q2⟩:=Aj.1 hc
     exact Xe (K:=fun s=>Da P I ops l s K) h1 q1 (Uv h2 q2 (by simpa using hK))
    ·cases h
   ·cases h
theorem Run.part {l:List Oper} (n:Nat) {ss:List Stp} {cs:List Prop} (st':St) (h:GF P I false ops (l.take n) ss st=some (cs,st')) (hc:AH cs) (hK:Da P I ops (l.drop n) st' K):Da P I ops l st K:=Uv h hc hK
theorem Run.whole {l:List Oper} {ss:List Stp} {cs:List Prop} (st':St) (h:GF P I false ops l ss st=some (cs,st')) (hc:AH cs) (hK:K st'):Da P I ops l st K:=VF h hc hK
theorem Run.inl {l rest:List Oper} {o:Oper} (hl:l=o::rest) (hg:o.guard=none) (h:Eg P I o st (fun st'=>Da P I ops rest st' K)):Da P I ops l st K:=by
 subst hl
 simp only [Da,Uh,hg]
 exact .inl h
end
end Go.PL
namespace Go.PL
open Go Go.RowKit
end Go.PL
namespace Go.PL
open Go Go.RowKit
theorem QP {α:Type} (e:α→List C) {N:Nat} (hN: ∀ y,(e y).length =N): ∀ (l:List α) (k:Nat) (x:α),l[k]? =some x→l.flatMap e=(l.take k).flatMap e++(e x++(l.drop (k+1)).flatMap e)∧((l.take k).flatMap e).length =k*N
 | [],k,x,h=>by simp at h
 | a::l,0,x,h=>by simp at h;subst h;simp
 | a::l,k+1,x,h=>by
   obtain⟨h1,h2⟩:=QP e hN l k x (by simpa using h)
   constructor
   ·rw [List.flatMap_cons,h1];simp [List.append_assoc]
   ·simp [h2,hN,Nat.add_mul];omega
theorem Uw {α:Type} (e:α→List C): ∀ (l:List α) (k:Nat) (x':α),k<l.length→(l.set k x').flatMap e=(l.take k).flatMap e++(e x'++(l.drop (k+1)).flatMap e)
 | [],k,x,h=>by simp at h
 | a::l,0,x,h=>by simp
 | a::l,k+1,x,h=>by
   rw [List.set_cons_succ,List.flatMap_cons,Uw e l k x (by simpa using h)]
   simp [List.append_assoc]
theorem kh {α:Type} [Inhabited α] {l:List α} {i:Int} {x x':α} {e:α→List C} {N o off:Nat} {cs pre post:List C} (hx:AN l i=some x) (hN: ∀ y,(e y).length =N) (hoff:off=pre.length+(i.toNat*N+o)) (ho:o+cs.length≤N)
 (hx':(e x).take o++(cs++(e x).drop (o+cs.length))=e x'):off+cs.length≤(pre++(l.flatMap e++post)).length ∧
  (pre++(l.flatMap e++post)).take off++cs++(pre++(l.flatMap e++post)).drop (off+cs.length)=pre++((l.set i.toNat x').flatMap e++post):=by
 have hb:=K3 hx
 have hlt:i.toNat<l.length:=by omega
 have hk:l[i.toNat]? =some x:=by
  rw [Xf hx,List.getElem?_eq_getElem hlt,List.getD_eq_getElem?_getD,List.getElem?_eq_getElem hlt];rfl
 obtain⟨h1,h2⟩:=QP e hN l i.toNat x hk
 have h3:=Uw e l i.toNat x' hlt
 have hex:=hN x
 rw [h1,h3, ←hx']
 subst hoff
 generalize (l.take i.toNat).flatMap e=A at *
 generalize (l.drop (i.toNat+1)).flatMap e=B at *
 generalize e x=X at *
 constructor
 ·simp only [List.length_append];omega
 ·have e1:pre++(A++(X++B)++post)=(pre++(A++X.take o))++((X.drop o).take cs.length++(X.drop (o+cs.length)++(B++post))):=by
   have:X=X.take o++((X.drop o).take cs.length++X.drop (o+cs.length)):=by
    rw [←List.drop_drop,List.take_append_drop,List.take_append_drop]
   conv=>lhs;rw [this]
   simp only [List.append_assoc]
  have l1:(pre++(A++X.take o)).length =pre.length+(i.toNat*N+o):=by simp only [List.length_append,List.length_take];omega
  have l2:((X.drop o).take cs.length).length =cs.length:=by simp only [List.length_take,List.length_drop];omega
  generalize (X.drop o).take cs.length=M at *
  generalize X.drop (o+cs.length)=Z at *
  rw [e1, ←l1,List.take_left, ←List.drop_drop,List.drop_left, ←l2,List.drop_left]
  simp only [List.append_assoc]
theorem dR {α:Type} [Inhabited α] {l l':List α} {i:Int} {x x':α} {e:α→List C} {N o off base:Nat} {c0 c1 cs pre post:List C} (hc0:c0=pre++(l.flatMap e++post)) (hb:pre.length=base) (hc1:c1=pre++(l'.flatMap e++post)) (hl:l'=l.set i.toNat x') (hx:AN l i=some x) (hN: ∀ y,(e y).length =N)
 (hoff:off=base+(i.toNat*N+o)) (ho:o+cs.length≤N) (hx':(e x).take o++(cs++(e x).drop (o+cs.length))=e x'):off+cs.length≤c0.length∧c0.take off++cs++c0.drop (off+cs.length)=c1:=by
 subst hc0 hc1 hl hb
 exact kh hx hN hoff ho hx'
end Go.PL
namespace Go.PL
open Go Go.RowKit
def slots:Nat→Nat→List (Nat×V)→List V
 | 0,_,_=>[]
 | n+1,i,[]=> .undef ::slots n (i+1) []
 | n+1,i,(j,v)::l=>match Nat.beq i j with
   | true=>v::slots n (i+1) l
   | false=> .undef ::slots n (i+1) ((j,v)::l)
def V.isDef:V→Bool
 | .undef =>false
 | _=>true
def jp (st st':St):St:=⟨OG (st'.tm.map V.isDef) st.tm,st.so.filter (fun e=>st'.so.any fun e'=>e'.id==e.id),OG (st'.gh.map V.isDef) st.gh,st.pre⟩
def kj (st st':St):Bool:=Nat.beq st'.tm.length st.tm.length&&Nat.beq st'.gh.length st.gh.length
theorem bZ {st st':St} (hl:kj st st'=true):Ck st (jp st st'):=by
 simp only [kj,Bool.and_eq_true]at hl
 have a:=(ax (m:=st'.tm.map V.isDef) (l:=st.tm) (by simpa using Nat.eq_of_beq_eq_true hl.1) rfl).get
 have b:=(ax (m:=st'.gh.map V.isDef) (l:=st.gh) (by simpa using Nat.eq_of_beq_eq_true hl.2) rfl).get
 exact⟨a.1,a.2,fun _ he=>(List.mem_filter.1 he).1,fun hn=>List.Sublist.nodup (List.Sublist.map (fun d:As=>d.id) List.filter_sublist) hn,b,rfl⟩
def ay (st st':St):Option St:=match kj st st' with
 | true=>some (jp st st')
 | false=>none
theorem Ck.t {st st':St} (h:ay st st'=some st'):Ck st st':=by
 unfold ay at h
 split at h
 ·rename_i hl
  injection h with h
  have q:=bZ hl
  rw [h]at q
  exact q
 ·cases h
def Xh (o:Option (List Prop×St)) (st':St):Option (List Prop×St):=
 match o with
 | some (cs,st)=>match ay st st' with
   | some s=>some (cs,s)
   | none=>none
 | none=>none
theorem Y5 {o:Option (List Prop×St)} {st':St} {cs:List Prop} (h:Xh o st'=some (cs,st')): ∃ st,o=some (cs,st)∧Ck st st':=by
 unfold Xh at h
 split at h
 ·rename_i cs' st
  split at h
  ·rename_i s hs
   simp only [Option.some.injEq,Prod.mk.injEq]at h
   obtain⟨rfl,rfl⟩:=h
   exact⟨st,rfl,Ck.t hs⟩
  ·cases h
 ·cases h
section
variable {P:Program} {F:Fr} {st:St}
theorem Ae.rg {id:Nat} {l:List Oper} {c:Code} {Q:Exit→St→Prop} {ss:List Stp} {cs:List Prop} (st':St) (hr:Xh (GF P F.I false l.toArray l ss st) st'=some (cs,st')) (hl:AH cs) (h:Ae P F c st' Q):Ae P F (.seq (.region id l.toArray false) c) st Q:=by
 obtain⟨st1,h1,h2⟩:=Y5 hr
 exact Ae.seq (Ae.reg h1 hl (Ae.less h2 h))
end
abbrev vI (n:Int):V:= .c (.int .i64 n)
abbrev vB (b:Bool):V:= .c (.bool b)
abbrev vS (s:List UInt8):V:= .c (.str s)
abbrev vL {α:Type} (e:α→List C) (l:List α):V:= .c (.sl l.length (l.flatMap e))
abbrev HV {α:Type} (i:Ah) (E N:Nat) (e:α→List C) (l:List α):As:=⟨i,some (E,N,l.length),l.flatMap e,true⟩
end Go.PL
namespace Go.PL
theorem gT {p:Bool} (h:p=true):(p==true)=true:=by subst h;rfl
theorem gF {p:Bool} (h:p=false):(p==false)=true:=by subst h;rfl
theorem gA {p q:Bool} (h:p=true) (k:q=true):(p&&q)=true:=by subst h;subst k;rfl
end Go.PL
namespace Go.PL
open Go Go.RowKit
def St.setCell (st:St) (i:Ah) (j:Nat) (c:C):St:={st with so:=st.so.map fun e=>if e.id==i&& !e.pu then⟨e.id,e.row,e.cs.set j c,false⟩else e}
def St.nilAt (st:St) (i:Ah) (j:Nat):Bool:=
 match st.look i with
 | some e=> !e.pu&&(match e.cs[j]? with
   | some .nils =>true
   | _=>false)
 | none=>false
theorem Lv {w:World} {G:Ay}: ∀ {cs:List C} {b o j:Nat} {c:C},Ak w G cs b o→(∀ v d,cs[j]? =some d→Ad w G d v→Ad w G c v)→Ak w G (cs.set j c) b o
 | [],_,_,_,_,h,_=>by simpa using h
 | d::cs,b,o,0,c,h,hc=>by
   simp only [Ak]at h
   simp only [List.set_cons_zero,Ak]
   obtain⟨⟨v,h1,h2⟩,h3⟩:=h
   exact⟨⟨v,h1,hc v d (by simp) h2⟩,h3⟩
 | d::cs,b,o,j+1,c,h,hc=>by
   simp only [Ak]at h
   simp only [List.set_cons_succ,Ak]
   exact⟨h.1,Lv h.2 (fun v d hd=>hc v d (by simpa using hd))⟩
theorem R.setCell {F:Fr} {st:St} {a:Act} {w:World} {G:Ay} (h:R F st a w G) {i k:Ah} {j:Nat} (hn:st.nilAt i j=true) (hk:G.own k=some (.slice none 0 0)):R F (st.setCell i j (.osl k)) a w G:={
 dfr:=h.dfr,size:=h.size,slots:=h.slots,ghosts:=h.ghosts
 store:=by
  intro e' he'
  simp only [St.setCell,List.mem_map]at he'
  obtain⟨e,he,rfl⟩:=he'
  split
  ·rename_i hc
   simp only [Bool.and_eq_true,beq_iff_eq,Bool.not_eq_true']at hc
   have hE:=h.store e he
   have hee: ∃ x,st.look i=some x∧x=e:=by
    unfold St.nilAt at hn
    cases hl:st.look i with
    | none=>rw [hl]at hn;cases hn
    | some x=>
      refine⟨x,rfl,?_⟩
      obtain⟨hm,hid⟩:=A0 hl
      have hp:=List.pairwise_map.1 h.nodup
      rcases List.mem_iff_getElem.1 hm with ⟨p,hp1,rfl⟩
      rcases List.mem_iff_getElem.1 he with ⟨q,hq1,rfl⟩
      rcases Nat.lt_trichotomy p q with z | z | z
      ·exact absurd (hid.trans hc.1.symm) (List.pairwise_iff_getElem.1 hp p q hp1 hq1 z)
      ·subst z;rfl
      ·exact absurd (hc.1.trans hid.symm) (List.pairwise_iff_getElem.1 hp q p hq1 hp1 z)
   obtain⟨x,hx,rfl⟩:=hee
   have hnil:x.cs[j]? =some .nils :=by
    unfold St.nilAt at hn
    rw [hx]at hn
    simp only [Bool.and_eq_true]at hn
    have:=hn.2
    split at this
    ·assumption
    ·cases this
   have hc': ∀ v d,x.cs[j]? =some d→Ad w G d v→Ad w G (.osl k) v:=by
    intro v d hd hr
    rw [hnil]at hd
    injection hd with hd;subst hd
    simp only [Ad]at hr ⊢
    subst hr
    exact⟨hk,rfl⟩
   unfold AX at hE ⊢
   simp only
   split at hE
   ·rename_i hrn
    obtain⟨b,h1,hbx⟩:=hE
    obtain⟨T,cur,h2,h3,h4⟩:=hbx.cells (PW hx hrn)
    exact⟨b,h1, .inr ⟨T,cur,h2,by simpa using h3,Lv h4 hc'⟩⟩
   ·obtain⟨hl,v,h1,h2⟩:=hE
    refine⟨by simpa using hl,v,h1,?_⟩
    rcases h2 with h2 | ⟨b,cap,cur,e1,e2,e3,e4,e5,e6,e7⟩
    ·exact .inl h2
    ·exact .inr ⟨b,cap,cur,e1,e2,e3,e4,e5,e6,Lv e7 hc'⟩
  ·exact h.store e he
 deep:=by
  intro e' he'
  simp only [St.setCell,List.mem_map]at he'
  obtain⟨e,he,rfl⟩:=he'
  split
  ·rename_i hc
   simp only [Bool.and_eq_true,beq_iff_eq,Bool.not_eq_true']at hc
   exact⟨(h.deep e he).1,fun hq=>absurd ((h.deep e he).2 hq).1 (by simp [hc.2])⟩
  ·exact h.deep e he
 pures:=by
  intro e' he'
  simp only [St.setCell,List.mem_map]at he'
  obtain⟨e,he,rfl⟩:=he'
  split
  ·intro hq;cases hq
  ·exact h.pures e he
 nodup:=by
  have:((st.setCell i j (.osl k)).so.map (·.id))=st.so.map (·.id):=by
   simp only [St.setCell,List.map_map]
   apply List.map_congr_left
   intro d _
   simp only [Function.comp]
   split<;>rfl
  rw [this];exact h.nodup
 inj:=h.inj,lt:=h.lt,new:=h.new,wr:=h.wr,avlt:=h.avlt,inv:=h.inv,avold:=h.avold,os:=h.os,tape:=h.tape,output:=h.output,hsize:=h.hsize,ext:=h.ext}
end Go.PL
namespace Go.PL
open Go Go.RowKit
theorem aC {p:Prop} {l:List Prop} (h:p) (k:AH l):AH (p::l):=⟨h,k⟩
theorem aN:AH []:=trivial
abbrev sl (n:Nat) (l:List (Nat×V)) (so:List As):St:=⟨slots n 0 l,so,[],[]⟩
abbrev sg (n:Nat) (l:List (Nat×V)) (so:List As) (m:Nat) (g:List (Nat×V)) (p:Ah):St:=⟨slots n 0 l,so,slots m 0 g,p⟩
def Jb:List Ah→Bool
 | []=>true
 | i::l=> !(l.contains i)&&Jb l
theorem FZ: ∀ {l:List Ah},Jb l=true→l.Nodup
 | [],_=>by simp
 | i::l,h=>by
   simp only [Jb,Bool.and_eq_true,Bool.not_eq_true']at h
   refine List.nodup_cons.2 ⟨fun hm=>?_,FZ h.2⟩
   have:=List.contains_iff_mem.2 hm
   rw [h.1]at this;cases this
section
variable {P:Program} {F:Fr} {st:St} {id:Nat} {l:List Oper} {c:Code} {Q:Exit→St→Prop} {cs:List Prop} {K:St→Prop}
theorem Rg (ss:List Stp) (st':St) (hl:AH cs) (h:Ae P F c st' Q) (hr:Xh (GF P F.I false l.toArray l ss st) st'=some (cs,st'):=by kernel_rfl):Ae P F (.seq (.region id l.toArray false) c) st Q:=Ae.rg st' hr hl h
theorem Rp {I:World→Prop} {ops:Array Oper} (n:Nat) (ss:List Stp) (st':St) (hc:AH cs) (hK:Da P I ops (l.drop n) st' K) (h:GF P I false ops (l.take n) ss st=some (cs,st'):=by kernel_rfl):Da P I ops l st K:=Run.part n st' h hc hK
theorem Rw {I:World→Prop} {ops:Array Oper} (ss:List Stp) (st':St) (hc:AH cs) (hK:K st') (h:GF P I false ops l ss st=some (cs,st'):=by kernel_rfl):Da P I ops l st K:=Run.whole st' h hc hK
theorem bQ {rs:List ResultVar} {e:Exit} {r':V} (v:V) (hr:v=r') (he:e= .normal ∨e= .ret :=by first | exact .inr rfl | exact .inl rfl) (h:gK P st rs=some v:=by kernel_rfl) (hs:jm st rs v=v:=by kernel_rfl) (hp:v.pure=true:=by kernel_rfl):
 (e= .normal ∨e= .ret)∧(Di P st rs).1∧(Di P st rs).2.pure =true∧(Di P st rs).2=r':=gL he h hs hp hr
end
theorem Tn {K:St→Prop} {Q:Exit→St→Prop} {st:St} (h:K st):C0 K Q .normal st:=h
theorem Tr {K:St→Prop} {Q:Exit→St→Prop} {st:St} (h:Q .ret st):C0 K Q .ret st:=h
theorem gi (g:Bool):g=true→g=true:=id
theorem g0 (g:Bool):g=true→AH []:=fun _=>trivial
theorem g1 (g:Bool):g=true→AH [g=true→g=true]:=fun _=>⟨id,trivial⟩
theorem g2 (g:Bool):g=true→AH [g=true→g=true,g=true→g=true]:=fun _=>⟨id,id,trivial⟩
section
variable {l:List Prop}
theorem aB {e b:Bool} (h:some e=some b) (k:AH l):AH ((vB e=vB b)::l):=⟨congrArg vB (sI h),k⟩
theorem aT (b:Bool) (k:AH l):AH ((b=true→(b==true)=true)::l):=⟨fun q=>gT q,k⟩
theorem aF (b:Bool) (k:AH l):AH ((b=false→(b==false)=true)::l):=⟨fun q=>gF q,k⟩
theorem aG (g:Bool) (k:AH l):AH ((g=true→AH [g=true→g=true])::l):=⟨g1 g,k⟩
end
section
variable {α:Type} [Inhabited α] {g:Bool} {o:Option α} {x:α} {p:Prop}
theorem c0 (h:gd g o=some x) (k:o=some x→p):g=true→AH []∧p:=fun hg=>⟨trivial,k (QN h hg)⟩
theorem c1 (h:gd g o=some x) (k:o=some x→p):g=true→AH [g=true→g=true]∧p:=fun hg=>⟨⟨id,trivial⟩,k (QN h hg)⟩
theorem c2 (h:gd g o=some x) (k:o=some x→p):g=true→AH [g=true→g=true,g=true→g=true]∧p:=fun hg=>⟨⟨id,id,trivial⟩,k (QN h hg)⟩
theorem c3 (h:gd g o=some x) (k:o=some x→p):g=true→AH [g=true→g=true,g=true→g=true,g=true→g=true]∧p:=fun hg=>⟨⟨id,id,id,trivial⟩,k (QN h hg)⟩
end
theorem kk (k:IntKind): ∀ x,(eI k x).length =1:=fun _=>rfl
section
variable {α:Type} [Inhabited α] {l m r:List α} {i:Int} {x:α} {e:α→List C} {N:Nat}
theorem oF (hx:AN l i=some x) (hN: ∀ y,(e y).length =N) (o n:Nat) (ag:Bool) (v:V) (hv:toV ag o n (e x)=v:=by kernel_rfl) (ho:Nat.ble (o+n) N=true:=by kernel_rfl) (h0:(ag||Nat.blt 0 n)=true:=by kernel_rfl):
 i.toNat*N+o+n≤(l.flatMap e).length ∧toV ag (i.toNat*N+o) n (l.flatMap e)=v:=
 VJ hx hN rfl (Nat.le_of_ble_eq_true ho) (by simpa using h0) hv
omit [Inhabited α] in
theorem dk {b:Nat} (h:EW b l m=some r) (e:α→List C):l.length+m.length=r.length∧l.flatMap e++m.flatMap e=r.flatMap e:=⟨by rw [dO h,List.length_append],by rw [dO h,List.flatMap_append]⟩
end
end Go.PL
namespace Go.PL
open Go Go.RowKit
theorem QQ {id:Ah} {v:V} (h:v.men id=false):D5 id v=v:=by unfold D5;rw [if_neg (by simp [h])]
theorem Xi {id:Ah}: ∀ {l:List C},BE id l=false→l.map (FX id)=l
 | [],_=>rfl
 | c::l,h=>by
   simp only [BE,Bool.or_eq_false_iff]at h
   rw [List.map_cons,Xi h.2,FX,if_neg (by simp [h.1])]
def As.fre (id:Ah) (e:As):Bool:=e.pu|| !BE id e.cs
theorem As.kill_eq {id:Ah} {e:As} (h:e.fre id=true):e.kill id=e:=by
 obtain⟨i,r,cs,pu⟩:=e
 cases pu
 ·simp only [As.fre,Bool.false_or,Bool.not_eq_true']at h
  simp only [As.kill,Xi h]
 ·rfl
def Hj:List Nat→Nat→Bool
 | [],_=>false
 | x::l,j=>cond (Nat.beq x j) true (Hj l j)
theorem Eh: ∀ {l:List Nat} {j:Nat},Hj l j=true↔j∈l
 | [],j=>by simp [Hj]
 | x::l,j=>by
   simp only [Hj,List.mem_cons]
   cases h:Nat.beq x j
   ·simp only [cond_false,Eh (l:=l)]
    have:x ≠ j:=fun e=>by subst e;simp at h
    exact⟨.inr,fun q=>q.resolve_left (fun e=>this e.symm)⟩
   ·simp only [cond_true,true_iff]
    exact .inl (Nat.eq_of_beq_eq_true h).symm
def Xj (ops:Array Oper) (i:Nat):List Nat:=match ops[i]? with
 | some o=>(o.after.toList.filter (Region.binds .any)).map (·.on)
 | none=>[]
def VK (ops:Array Oper) (pr:List (List Nat)):Bool:=
 (List.range ops.size).all fun i=>(Xj ops i).all (fun j=>Nat.blt j i&&Hj (pr.getD i []) j)&&(pr.getD i []).all fun j=>Hj (Xj ops i) j||(Xj ops i).any fun k=>Hj (pr.getD k []) j
def bv (v:List Bool):Nat→Bool:=fun j=>v.getD j false
section
variable {P:Program} {F:Fr} {ops:Array Oper}
end
end Go.PL
namespace Go.PL
open Go Go.RowKit
def Wk (st st':St):Prop:= ∀ (F:Fr) (a:Act) (w:World) (G:Ay),R F st a w G→ ∃ G',R F st' a w G'
theorem Wk.less {st st':St} (h:Ck st st'):Wk st st':=fun _ _ _ G hR=>⟨G,hR.less h⟩
theorem Wk.trans {a b c:St} (h:Wk a b) (k:Wk b c):Wk a c:=fun F x w G hR=>by
 obtain⟨G',q⟩:=h F x w G hR
 exact k F x w G' q
theorem Wk.frz (st:St) (id:Ah):Wk st (st.freeze id):=fun _ _ _ _ hR=>by
 obtain⟨G',q,_⟩:=hR.freeze id
 exact⟨G',q⟩
theorem wT {st st':St} (h:ay st st'=some st':=by kernel_rfl):Wk st st':=Wk.less (Ck.t h)
section
variable {P:Program} {F:Fr} {st:St}
theorem Ae.wk {c:Code} {st':St} {Q:Exit→St→Prop} (h:Wk st st') (hh:Ae P F c st' Q):Ae P F c st Q:=fun a w G hR=>by
 obtain⟨G',q⟩:=h F a w G hR
 exact hh a w G' q
theorem Ae.loopW {X:Type} (S:X→St) (inv:X→Prop) (μ:X→Nat) {c:Code} {Q:Exit→St→Prop} (x0:X) (h0:inv x0) (hl:Wk st (S x0))
 (hb: ∀ x,inv x→Ae P F c (S x) (C0 (fun st'=> ∃ y,inv y∧μ y<μ x∧Wk st' (S y)) Q)):Ae P F (.loop c) st Q:=by
 refine Ae.loop (X:=X×St) (fun p=>p.2) (fun p=>inv p.1∧Wk p.2 (S p.1)) (fun p=>μ p.1) (x0,st) ⟨h0,hl⟩ (Ck.refl _) (fun p hp=>?_)
 refine(Ae.wk hp.2 (hb p.1 hp.1)).mono fun e st' q=>?_
 cases e<;>simp only [C0]at q ⊢ <;>try exact q
 obtain⟨y,h1,h2,h3⟩:=q
 exact⟨(y,st'),⟨h1,h3⟩,h2,Ck.refl _⟩
theorem It {σ ρ:Type} {B:σ→Option (σ⊕ρ)} (S:σ→St) {N:Nat} {s0:σ} {o:ρ} {c:Code} {Q:Exit→St→Prop} (hi:PL.iter B N s0=some o) (hl:Wk st (S s0))
 (hb: ∀ s z,B s=some z→(∀ o',z= .inr o'→o'=o)→Ae P F c (S s) (C0 (fun st'=> ∃ s',z= .inl s'∧Wk st' (S s')) Q)):Ae P F (.loop c) st Q:=by
 refine Ae.loopW (X:=Nat×σ) (fun x=>S x.2) (fun x=>PL.iter B x.1 x.2=some o) (fun x=>x.1) (N,s0) hi hl ?_
 intro ⟨n,s⟩ hx
 cases n with
 | zero=>simp [PL.iter]at hx
 | succ n=>
   simp only [PL.iter]at hx
   cases hB:B s with
   | none=>rw [hB]at hx;simp at hx
   | some z=>
     rw [hB]at hx
     cases z with
     | inl s'=>
       refine(hb s _ hB (fun o' e=>by cases e)).mono fun e st' q=>?_
       cases e<;>simp only [C0]at q ⊢ <;>try exact q
       obtain⟨s'',e,hl'⟩:=q
       injection e with e;subst e
       exact⟨(n,s'),hx,Nat.lt_succ_self _,hl'⟩
     | inr r=>
       simp only [Option.some.injEq]at hx
       refine(hb s _ hB (fun o' e=>by injection e with e;rw [←e];exact hx)).mono fun e st' q=>?_
       cases e<;>simp only [C0]at q ⊢ <;>try exact q
       obtain⟨s'',e,_⟩:=q
       cases e
theorem Sj {X:Type} (S:X→St) (Φ:X→Prop) {x y:Code} {Q:Exit→St→Prop} (hx:Ae P F x st (C0 (fun st'=> ∃ v,Φ v∧Wk st' (S v)) Q)) (hy: ∀ v,Φ v→Ae P F y (S v) Q):Ae P F (.seq x y) st Q:=
 Ae.seq (hx.mono fun e st' q=>by
  cases e<;>simp only [C0]at q ⊢ <;>try exact q
  obtain⟨v,h1,h2⟩:=q
  exact Ae.wk h2 (hy v h1))
end
theorem Ux {α:Type} (e:α→List C) (x:α) {z:List C} (hz:z=e x) (hp:0<z.length): ∀ k,B0 z k=(List.replicate k x).flatMap e:=by
 intro k
 subst hz
 apply List.ext_getElem?
 intro i
 have hlen:((List.replicate k x).flatMap e).length =k*(e x).length :=by
  induction k with
  | zero=>simp
  | succ k ih=>rw [List.replicate_succ,List.flatMap_cons,List.length_append,ih,Nat.succ_mul,Nat.add_comm]
 by_cases hi:i<k*(e x).length
 ·have hm:i % (e x).length <(e x).length :=Nat.mod_lt _ hp
  have key: ∀ k i,i<k*(e x).length →((List.replicate k x).flatMap e)[i]? =(e x)[i % (e x).length]? :=by
   intro k
   induction k with
   | zero=>intro i h;simp at h
   | succ k ih=>
     intro i h
     rw [List.replicate_succ,List.flatMap_cons]
     by_cases hlt:i<(e x).length
     ·rw [List.getElem?_append_left hlt,Nat.mod_eq_of_lt hlt]
     ·rw [List.getElem?_append_right (by omega),ih _ (by rw [Nat.succ_mul]at h;omega), ←Nat.mod_eq_sub_mod (by omega)]
  rw [key k i hi]
  simp only [B0,List.getElem?_map,List.getElem?_range hi,Option.map_some]
  rw [List.getD_eq_getElem?_getD,List.getElem?_eq_getElem hm]
  rfl
 ·rw [List.getElem?_eq_none (by simp only [B0,List.length_map,List.length_range];omega),List.getElem?_eq_none (by rw [hlen];omega)]
theorem dS {α:Type} {s c:List α} {a b:Int} (h:Y4 s a b=some c):0≤a∧a≤b∧b≤s.length:=by
 unfold Y4 at h;split at h
 ·assumption
 ·cases h
theorem dT {α:Type} {s c:List α} {a b:Int} (h:Y4 s a b=some c):c=(s.drop a.toNat).take (b.toNat - a.toNat):=by
 unfold Y4 at h;split at h
 ·exact(Option.some.inj h).symm
 ·cases h
theorem GP {α:Type} {e:α→List C} {N:Nat} (hN: ∀ x,(e x).length =N): ∀ (l:List α) (k:Nat),(l.flatMap e).drop (k*N)=(l.drop k).flatMap e
 | l,0=>by simp
 | [],k+1=>by simp
 | x::l,k+1=>by
   rw [List.flatMap_cons,List.drop_succ_cons, ←GP hN l k,Nat.succ_mul,Nat.add_comm, ←List.drop_drop]
   congr 1
   rw [←hN x,List.drop_left]
theorem Fu {α:Type} {e:α→List C} {N:Nat} (hN: ∀ x,(e x).length =N): ∀ (l:List α) (k:Nat),(l.flatMap e).take (k*N)=(l.take k).flatMap e
 | l,0=>by simp
 | [],k+1=>by simp
 | x::l,k+1=>by
   rw [List.flatMap_cons,List.take_succ_cons,List.flatMap_cons, ←Fu hN l k,Nat.succ_mul,Nat.add_comm, ←hN x,List.take_length_add_append]
theorem nF {α:Type} {l r:List α} {a b:Int} {e:α→List C} {N:Nat} (h:Y4 l a b=some r) (hN: ∀ x,(e x).length =N):V.c (.sl (b.toNat - a.toNat) (((l.flatMap e).drop (a.toNat*N)).take ((b.toNat - a.toNat)*N)))=vL e r:=by
 have hb:=dS h
 rw [GP hN,Fu hN, ←dT h]
 have:r.length=b.toNat - a.toNat:=by
  rw [dT h,List.length_take,List.length_drop]
  omega
 unfold vL
 rw [this]
theorem flat_len' {α:Type} {enc:α→List C} {n:Nat} (hn: ∀ x,(enc x).length =n) (l:List α):(l.flatMap enc).length =l.length*n:=Bo hn l
end Go.PL
namespace Go.PL
open Go Go.RowKit
def Gt (s:List UInt8):List Int:=s.map fun b=>(b.toNat:Int)
def dU (P:Program) (dst:TypeId):Option TypeId:=match P.underlying dst with
 | some (.slice e)=>match P.underlying e with
   | some (.int .u8)=>some e
   | _=>none
 | _=>none
theorem Y6 {P:Program} {dst e:TypeId} (h:dU P dst=some e):P.underlying dst=some (.slice e)∧P.underlying e=some (.int .u8):=by
 unfold dU at h
 split at h
 ·rename_i e' h1
  split at h
  ·rename_i h2
   injection h with h;subst h
   exact⟨h1,h2⟩
  ·cases h
 ·cases h
theorem Mr {w:World} {G:Ay} {e:TypeId} (s:List UInt8): ∀ (l:List UInt8) (k:Nat),s.drop k=l→Ak (Lib.bytesWorld w e ⟨s.toArray⟩) G ((Gt l).flatMap (eI .u8)) w.heap.size k
 | [],_,_=>by simp [Gt,Ak]
 | b::l,k,h=>by
   have hk:k<s.length:=by
    rcases Nat.lt_or_ge k s.length with q | q
    ·exact q
    ·rw [List.drop_eq_nil_of_le q]at h;cases h
   have hb:s.getD k 0=b:=by
    have:=congrArg (fun l=>l.head?) h
    simp only [List.head?_drop,List.head?_cons]at this
    rw [List.getD_eq_getElem?_getD,this];rfl
   have hd:s.drop (k+1)=l:=by
    have:=congrArg List.tail h
    simpa using this
   simp only [Gt,List.map_cons,List.flatMap_cons,eI,List.cons_append,List.nil_append,Ak,Ad]
   refine⟨⟨_,Lib.bytesWorld_cell w e ⟨s.toArray⟩ k (by simpa [ByteArray.size] using hk),?_⟩,Mr s l (k+1) hd⟩
   simp only [List.getD_eq_getElem?_getD]at hb
   simp [List.getD_eq_getElem?_getD,hb]
theorem Eg.bytes {P:Program} {I:World→Prop} {o:Oper} {st:St} {K:St→Prop} {x:Operand} {src dst:TypeId} (e:TypeId) (s:List UInt8)
 (ho:o.op= .convert src dst x) (hlen:s.length≤140737488355328) (hK:K (st.put o.dst (vL (eI .u8) (Gt s)))) (ha:st.ev x= .c (.str s):=by kernel_rfl)
 (hs:ED P src=true:=by kernel_rfl) (hd:dU P dst=some e:=by kernel_rfl):Eg P I o st K:=by
 intro F a w G Q hI hR
 obtain⟨h1,h2⟩:=Y6 hd
 have hx:=hR.ev x
 rw [ha]at hx
 simp only [Ab,Ad]at hx
 obtain⟨u,hu⟩: ∃ u,P.underlying src=some u:=by
  unfold ED at hs
  cases hq:P.underlying src with
  | none=>rw [hq]at hs;simp at hs
  | some u=>exact⟨u,rfl⟩
 have hrun:(execOp a.eval o).run P w= .ok (.value (.slice (some ⟨w.heap.size,0,none⟩) s.length (grownCap w s.length 0 e))) (Lib.bytesWorld w e ⟨s.toArray⟩):=by
  have:=Lib.run_convert_string_bytes (P:=P) w src dst e ⟨s.toArray⟩ hu h1 h2
  simp [execOp,ho,hx,this,ByteArray.size]
 refine AM hrun ⟨_,G,hK,?_⟩
 have hb:=Lib.bytesWorld_below w e ⟨s.toArray⟩
 refine(hR.same (Dr hb) (Er hb)).put ?_
 have hl:(Gt s).length =s.length:=by simp [Gt]
 simp only [Ab,Ad,hl]
 refine⟨AF _ (fun x=>by simp [eI,Ao,C.pure]) _,_,_,rfl,grownCap_ge _ _ _ _,grownCap_le_maxLen _ _ _ _ (by simp only [maxLen];omega),fun h0=>?_, .inr ⟨w.heap.size,0,rfl,fun hw=>absurd (hR.avlt' hw) (by omega),?_,Mr s s 0 rfl⟩⟩
 ·have:s=[]:=List.length_eq_zero_iff.1 h0
  subst this;rfl
 ·rw [Lib.bytesWorld_size];omega
end Go.PL
namespace Go.PL
open Go Go.RowKit
theorem Eg.nilq {P:Program} {I:World→Prop} {o:Oper} {st:St} {K:St→Prop} {t ty:TypeId} {x:Operand} {len:Nat} {cs:List C}
 (ho:o.op= .binOp .eql t x (.const (.slice none 0 0)) ty) (hK: ∀ b,(b=true→len=0)→K (st.put o.dst (vB b)))
 (hx:st.ev x= .c (.sl len cs):=by kernel_rfl) (ht:DU P t=true:=by kernel_rfl):Eg P I o st K:=by
 intro F a w G Q hI hR
 obtain⟨e,hu⟩:=DW ht
 have hv:=hR.ev x
 rw [hx]at hv
 simp only [Ab,Ad]at hv
 obtain⟨_,p,cap,he,_,_,_,hz⟩:=hv
 have hrun:(execOp a.eval o).run P w= .ok (.value (.bool p.isNone)) w:=by
  have hq:=run_equal_slice_nil (P:=P) w t e p len cap hu
  have hc:a.eval (.const (.slice none 0 0))= .slice none 0 0:=rfl
  simp [execOp,ho,he,hc,eqGuard,binOp,hq]
 refine AM hrun ⟨_,G,hK p.isNone (fun hp=>?_),hR.put (by simp only [Ab,Ad])⟩
 rcases hz with q | ⟨b,off,q,_⟩
 ·exact q
 ·rw [q]at hp;cases hp
end Go.PL
namespace Go.PL
open Go Go.RowKit
structure Bz (P:Program) (I:World→Prop) (f:FuncId) (args:List V) (E n:Nat) (Q:Nat→List C→Prop):Prop where
 ent:ent P f=true
 run: ∀ (w:World) (vs:Array Value) (av:Nat→Prop),I w→(∀ b,av b→b<w.heap.size)→Ap w (im av) args vs.toList→
  Calls P f vs w (fun e w'=> ∃ v len cs us,e= .returned v∧Q len cs∧Ao cs=true∧cs.length=len*n∧
   ((∃ p,v= .slice p 0 0∧len=0)∨Ai w' (im fun b=>av b∨v.ownBlock=some b) cs us∧w'.ownsRow w.heap.size E n v len us)∧Below w.heap.size w w')
def nG (st:St) (t:Nat) (E n:Nat) (Q:Nat→List C→Prop):Prop:=
 (∃ id e len,st.get t= .c (.osl id)∧st.look id=some e∧e.row=some (E,n,len)∧Ao e.cs=true∧Q len e.cs)∨(st.get t= .c .nils ∧Q 0 [])
theorem Bz.of {P:Program} {I:World→Prop} (hst:Hb I) {f:FuncId} {fn:Func} {c:Code} {args:List V} {E n t m:Nat} {Q:Nat→List C→Prop} (hent:PL.ent P f=true) (hf:P.funcs[f]? =some fn) (hb:fn.body=some c)
 (hr:fn.results= #[.tmp t]) (hn:fn.ntmps=m)
 (h: ∀ w0 av old gv,Ae P ⟨w0,av,old,I,gv⟩ c (St.start args m) (fun e st'=>(e= .normal ∨e= .ret)∧nG st' t E n Q)):Bz P I f args E n Q:=by
 refine⟨hent,fun w vs av hI hav hargs=>calls_of_wp hf hb ?_⟩
 subst hn
 have hR:=R.start hst hI hav hargs fn.ntmps
 refine Code.wp_mono (fun e a' w' ⟨st',G',⟨he,q⟩,hR'⟩=>?_) (h _ _ _ _ _ _ _ hR)
 have fin:a'.defers=[]∧ ∃ v,(results fn a'.tmps).run P w'= .ok v w'∧(fun(e:Ending) w''=> ∃ v len cs us,e= .returned v∧Q len cs∧Ao cs=true∧cs.length=len*n∧
  ((∃ p,v= .slice p 0 0∧len=0)∨Ai w'' (im fun b=>av b∨v.ownBlock=some b) cs us∧w''.ownsRow w.heap.size E n v len us)∧Below w.heap.size w w'') (.returned v) w':=by
  have hres:(results fn a'.tmps).run P w'= .ok (a'.tmps.getD t Go.undef) w':=by
   have:=EL (P:=P) (w:=w') (fn:=fn) (tmps:=a'.tmps) (vs:=[a'.tmps.getD t Go.undef]) (by rw [hr];simp [Hc])
   simpa using this
  refine⟨hR'.dfr,_,hres,?_⟩
  have hbel:=hR'.below (fun _ hx=>hx)
  have hsl:=hR'.slots t
  rcases q with ⟨id,e,len,q1,q2,q3,q4,q5⟩ | ⟨q1,q2⟩
  ·have hsl':Ab w' G' (st'.get t) (a'.tmps.getD t Go.undef):=hsl
   rw [q1]at hsl'
   simp only [Ab,Ad]at hsl'
   obtain⟨hm,hid⟩:=A0 q2
   obtain⟨v,us,k1,k2,k3,k4⟩:=EF q3 (hR'.store e hm)
   have hE:=hR'.store e hm
   have hl:e.cs.length=len*n:=by unfold AX at hE;rw [q3]at hE;exact hE.1
   rw [hid]at k1
   rw [k1]at hsl'
   have hv:v=a'.tmps.getD t Go.undef:=by have:=hsl'.1;injection this
   refine⟨_,len,e.cs,us,rfl,q5,q4,hl,?_,hbel⟩
   rw [←hv]
   rcases k4 with ⟨k4,k5⟩ | ⟨p,rfl,k5,_⟩
   ·refine .inr ⟨Ai.mono (G:=G') ⟨Nat.le_refl _,fun _ _ _=>rfl,fun b _ hw=>?_,fun _ _ _ _=>BX.same rfl⟩ _ _ (fun i hi=>absurd (show BE i e.cs=true from hi) (by rw [AG i e.cs q4];simp)) k3,?_⟩
    ·rw [hR'.wr]
     have hw':av b∨v.ownBlock=some b:=hw
     rcases hw' with q | q
     ·exact .inl q
     ·exact .inr ⟨id,by rw [←hid, ←k5];exact q⟩
    ·refine⟨k4.1,?_⟩
     rcases k4.2 with ⟨q,h0⟩ | ⟨g,cap,cur,q,z1,z2,z3,z4,z5,z6⟩
     ·exact .inl ⟨q,h0⟩
     ·refine .inr ⟨g,cap,cur,q,?_,z2,z3,z4,z5,z6⟩
      have hg:G'.blk e.id=some g:=by rw [←k5,q];rfl
      rcases hR'.new _ _ hg with q' | q'
      ·exact q'
      ·exact q'.elim
   ·exact .inl ⟨some p,rfl,k5⟩
  ·have hsl':Ab w' G' (st'.get t) (a'.tmps.getD t Go.undef):=hsl
   rw [q1]at hsl'
   simp only [Ab,Ad]at hsl'
   exact⟨_,0,[],[],rfl,q2,rfl,by simp, .inl ⟨none,hsl',rfl⟩,hbel⟩
 rcases he with rfl | rfl<;>exact fin
end Go.PL
namespace Go.PL
open Go Go.RowKit
theorem Bz.flat {P:Program} {I:World→Prop} {f:FuncId} {args:List V} {E n k:Nat} {ds:List C} (h:Bz P I f args E n (fun len cs=>len=k∧cs=ds)):CC P I f args (· = .c (.sl k ds)):=by
 refine⟨h.ent,fun w vs av hI hav hr=>(h.run w vs av hI hav hr).mono ?_⟩
 rintro e w' ⟨v,len,cs,us,he,⟨rfl,rfl⟩,hp,hl,hv,hb⟩
 refine⟨v,_,he,rfl,by simp only [V.pure,C.pure],?_,hb⟩
 simp only [Ab,Ad]
 refine⟨hp,?_⟩
 rcases hv with ⟨p,rfl,rfl⟩ | ⟨hr,hown⟩
 ·exact⟨p,0,rfl,Nat.le_refl _,Nat.zero_le _,fun _=>List.length_eq_zero_iff.1 (by simpa using hl), .inl rfl⟩
 ·have h0:len=0→cs=[]:=fun h0=>List.length_eq_zero_iff.1 (by rw [hl,h0,Nat.zero_mul])
  rcases hown.2 with ⟨q,q0⟩ | ⟨g,cap,cur,q,z1,z2,z3,z4,z5,z6⟩
  ·exact⟨none,0,by rw [q,q0],by omega,Nat.zero_le _,h0, .inl q0⟩
  ·refine⟨_,cap,q,z3,z4,h0, .inr ⟨g,0,rfl,fun ha=>?_,(Array.getElem?_eq_some_iff.1 z2).1,?_⟩⟩
   ·have:=hav g ha;omega
   ·refine Ak.of_list (vs:=us) ?_ (By z2 (rest:=cur.toList.drop (len*n)) (by rw [←z6,List.take_append_drop]))
    exact Ai.mono (G:=im fun b=>av b∨v.ownBlock=some b) ⟨Nat.le_refl _,fun _ _ _=>rfl,fun b _ hw=> .inl hw,fun _ _ _ _=>BX.same rfl⟩ _ _ (fun i hi=>absurd (show BE i cs=true from hi) (by rw [AG i cs hp];simp)) hr
end Go.PL
namespace Go.PL
open Go Go.RowKit
section
variable {P:Program} {F:Fr} {st:St}
def dV (Q:Exit→St→Prop):Exit→St→Prop
 | .goto _,_=>False
 | e,st=>Q e st
theorem Ae.label {l:Nat} {Q:Exit→St→Prop} (h:Q .normal st):Ae P F (.label l) st Q:=fun _ _ G hR=>wp_label ⟨st,G,h,hR⟩
theorem Ae.scope {c:Code} {Q:Exit→St→Prop} (h:Ae P F c st (dV Q)):Ae P F (.scope c) st Q:=
 fun a w G hR=>wp_scope_straight (Code.wp_mono (fun e a' w' ⟨st',G',q,hR'⟩=>by
  cases e<;>simp only [Exit.noGoto,dV]at q ⊢ <;>first
   | exact q.elim
   | exact⟨st',G',q,hR'⟩) (h a w G hR))
end
end Go.PL
namespace Go.PL
open Go Go.RowKit
end Go.PL
namespace Go.PL
open Go Go.RowKit Go.Lib
end Go.PL
namespace Go.PL
open Go Go.RowKit
section
variable {P:Program} {F:Fr} {st:St} {ops:Array Oper}
end
end Go.PL
namespace Go.PL
open Go Go.RowKit
end Go.PL
namespace Go.PL
open Go Go.RowKit Go.MapKept
section
variable {F:Fr} {st:St} {a:Act} {w:World} {G:Ay}
end
section
variable {P:Program} {I:World→Prop} {o:Oper} {st:St} {K:St→Prop}
end
end Go.PL
namespace Go.PL
open Go Go.RowKit
theorem Eg.inlineB {P:Program} {I:World→Prop} {o:Oper} {st:St} {K:St→Prop} {x:Operand} {xs:List Operand} {c:Call} {s:Prop} {vs:List V} {f:FuncId} {cs:List C} {fn:Func} {body:Code} {n:Nat} {rs:List ResultVar} (k:Nat)
 (ho:o.op= .call c) (hcal:c.callee= .value x) (hxs:c.args.toList=xs) (ha:st.args true xs=(s,vs)) (hs:s) (hf:st.ev x= .c (.bmv f cs)) (hent:ent P f=true) (hfn:P.funcs[f]? =some fn) (hb:fn.body=some body) (hn:fn.ntmps=n) (hr:fn.results=rs.toArray)
 (h: ∀ w0 av old gv,Ae P ⟨w0,av,old,I,gv⟩ body (st.enter k (cs.map V.c++vs) n) (lU P rs st.tm.length st.pre o.dst K)):Eg P I o st K:=by
 intro F a w G Q hI hR
 have hargs:Ap w G vs (xs.map a.eval):=by
  have:=hR.args (g:=true) rfl (xs:=xs) (by rw [ha];exact hs)
  rw [ha]at this;exact this
 obtain⟨arr,hev,hcs⟩: ∃ arr:Array Value,a.eval x= .func (.func f) arr #[]∧Ai w G cs arr.toList:=by
  have hx:=hR.ev x
  rw [hf]at hx
  simpa only [Ab,Ad] using hx
 have hrun:(execOp a.eval o).run P w= .ok (.enter f (arr++(xs.map a.eval).toArray)) w:=by
  have e:c.args.map a.eval=(xs.map a.eval).toArray :=by apply Array.ext';simp [←hxs]
  simp [execOp,ho,resolve,hcal,hev,Deferred.ofValue,invoke,run_callFunc' hent,e]
 unfold Oper.wp Oper.upon
 rw [hrun]
 simp only
 obtain⟨w0,av,old,I',gv⟩:=F
 simp only at hI;subst hI
 have hall:Ap w G (cs.map V.c++vs) (arr++(xs.map a.eval).toArray).toList :=by
  simpa using GE (Nk hcs) hargs
 refine calls_of_wp hfn hb ?_
 have hR0:=hR.enter k hall fn.ntmps
 rw [hn]at hR0
 rw [hn]
 refine Code.wp_mono (fun e a' w' ⟨st',G',q,hR'⟩=>?_) (h _ _ _ _ _ _ _ hR0)
 have hrs:fn.results.toList=rs:=by rw [hr]
 have fin:(Cd P st' rs).1∧K (st'.back st.tm.length st.pre o.dst (Cd P st' rs).2)→
  a'.defers=[]∧ ∃ v,(results fn a'.tmps).run P w'= .ok v w'∧ah ⟨w0,av,old,I',gv⟩ K (a.put o.dst v) w':=by
  intro ⟨q1,q2⟩
  rw [←hrs]at q1 q2
  obtain⟨v,k1,k2⟩:=I6 hR' (fn:=fn) q1
  refine⟨hR'.dfr,v,k1,_,G',q2,?_⟩
  exact(R.back hR.dfr rfl hR' hR.size.symm st.pre).put k2
 cases e<;>simp only [lU]at q<;>first | exact fin q | exact q.elim
end Go.PL
namespace Go.PL
open Go Go.RowKit
def nH:List V→Nat→List Nat→List V
 | [],_,_=>[]
 | v::vs,_,[]=>v::vs
 | v::vs,i,j::l=>match Nat.beq i j with
   | true=> .undef ::nH vs (i+1) l
   | false=>v::nH vs (i+1) (j::l)
def nI:List V→Nat→List (Nat×V)→List V
 | [],_,_=>[]
 | v::vs,_,[]=>v::vs
 | v::vs,i,(j,x)::l=>match Nat.beq i j with
   | true=>x::nI vs (i+1) l
   | false=>v::nI vs (i+1) ((j,x)::l)
def u (d:List Nat) (l:List (Nat×V)) (st:St):St:=⟨nI (nH st.tm 0 d) 0 l,st.so,st.gh,st.pre⟩
section
variable {P:Program} {F:Fr} {st:St} {id:Nat} {l:List Oper} {c:Code} {Q:Exit→St→Prop} {cs:List Prop} {K:St→Prop}
theorem Gg (ss:List Stp) (f:St→St) (hl:AH cs) (h:Ae P F c (f st) Q) (hr:Xh (GF P F.I false l.toArray l ss st) (f st)=some (cs,f st):=by kernel_rfl):Ae P F (.seq (.region id l.toArray false) c) st Q:=Ae.rg _ hr hl h
theorem Ge (ss:List Stp) (f:St→St) (hl:AH cs) (h:Q .normal (f st)) (hr:GF P F.I false l.toArray l ss st=some (cs,f st):=by kernel_rfl):Ae P F (.region id l.toArray false) st Q:=Ae.reg hr hl h
theorem Gp {I:World→Prop} {ops:Array Oper} (n:Nat) (ss:List Stp) (f:St→St) (hc:AH cs) (hK:Da P I ops (l.drop n) (f st) K) (h:GF P I false ops (l.take n) ss st=some (cs,f st):=by kernel_rfl):Da P I ops l st K:=Run.part n (f st) h hc hK
theorem Gw {I:World→Prop} {ops:Array Oper} (ss:List Stp) (f:St→St) (hc:AH cs) (hK:K (f st)) (h:GF P I false ops l ss st=some (cs,f st):=by kernel_rfl):Da P I ops l st K:=Run.whole (f st) h hc hK
theorem Gi {σ ρ:Type} {B:σ→Option (σ⊕ρ)} (S:σ→St→St) {N:Nat} {s0:σ} {o:ρ} {c:Code} {Q:Exit→St→Prop} (hi:PL.iter B N s0=some o) (hl:Wk st (S s0 st))
 (hb: ∀ s z,B s=some z→(∀ o',z= .inr o'→o'=o)→Ae P F c (S s st) (C0 (fun st'=> ∃ s',z= .inl s'∧Wk st' (S s' st)) Q)):Ae P F (.loop c) st Q:=It (fun v=>S v st) hi hl hb
theorem hS {x y:Code} {Q:Exit→St→Prop} (h:Ae P F x st (C0 (fun st'=>Ae P F y st' Q) Q)):Ae P F (.seq x y) st Q:=Ae.seq h
theorem hK (h:Q .normal st):Ae P F .skip st Q:=Ae.skip h
theorem hT (h:K st):Ae P F .skip st (C0 K Q):=Ae.skip h
theorem hR (h:Q .ret st):Ae P F .ret st Q:=Ae.ret h
theorem hE {id:Nat} (h:Q (.exit id) st):Ae P F (.exit id) st Q:=Ae.exit h
theorem hB {id:Nat} {c:Code} {Q:Exit→St→Prop} (h:Ae P F c st (C3 id Q)):Ae P F (.block id c) st Q:=Ae.block h
theorem hO {id:Nat} {ops:Array Oper} {Q:Exit→St→Prop} (h:Da P F.I ops ops.toList st (Q .normal)):Ae P F (.region id ops false) st Q:=Ae.region h
theorem Te {i:Nat} (h:Q (.exit i) st):C0 K Q (.exit i) st:=h
theorem qN {i:Nat} (h:Q .normal st):C3 i Q .normal st:=h
theorem qR {i:Nat} (h:Q .ret st):C3 i Q .ret st:=h
theorem qX {i:Nat} (h:Q .normal st):C3 i Q (.exit i) st:=C3.out h
end
section
variable {α:Type} {e x:α}
theorem kB {e b:Bool} (h:some e=some b):vB e=vB b:=congrArg vB (sI h)
end
section
variable {α β γ δ ε:Type} {r:ε}
theorem oG {o:Option α} {f:α→Option β} {g:α→β→Option ε} (h:(o.bind fun x=>(f x).bind (g x))=some r): ∃ x,o=some x∧ ∃ y,f x=some y∧g x y=some r:=by
 obtain⟨x,hx,h⟩:=bS h
 obtain⟨y,hy,h⟩:=bS h
 exact⟨x,hx,y,hy,h⟩
theorem oH {o:Option α} {f:α→Option β} {g:α→β→Option γ} {k:α→β→γ→Option ε} (h:(o.bind fun x=>(f x).bind fun y=>(g x y).bind (k x y))=some r): ∃ x,o=some x∧ ∃ y,f x=some y∧ ∃ z,g x y=some z∧k x y z=some r:=by
 obtain⟨x,hx,h⟩:=bS h
 obtain⟨y,hy,z,hz,h⟩:=oG h
 exact⟨x,hx,y,hy,z,hz,h⟩
theorem nJ {o:Option α} {f:α→Option β} {g:α→β→Option γ} {k:α→β→γ→Option δ} {m:α→β→γ→δ→Option ε} (h:(o.bind fun x=>(f x).bind fun y=>(g x y).bind fun z=>(k x y z).bind (m x y z))=some r): ∃ x,o=some x∧ ∃ y,f x=some y∧ ∃ z,g x y=some z∧ ∃ w,k x y z=some w∧m x y z w=some r:=by
 obtain⟨x,hx,h⟩:=bS h
 obtain⟨y,hy,z,hz,w,hw,h⟩:=oH h
 exact⟨x,hx,y,hy,z,hz,w,hw,h⟩
end
section
variable {P:Program} {F:Fr} {st:St} {K:St→Prop}
theorem iC {cc:Operand} {x y:Code} {Q:Exit→St→Prop} {β:Type} {b:Bool} {X Y:Option β} {r:β} (h:(if b=true then X else Y)=some r) (h1:X=some r→Ae P F x st Q) (h2:Y=some r→Ae P F y st Q) (hc:st.ev cc= .c (.bool b):=by kernel_rfl):Ae P F (.cond cc x y) st Q:=
 Ae.ifB b hc (fun hb=>h1 (iT h hb)) (fun hb=>h2 (iF h hb))
end
theorem CC.bo {P:Program} {I:World→Prop} (hsta:Hb I) {f:FuncId} {fn:Func} {c:Code} {args:List V} {Q:V→Prop} {n:Nat} (hf:P.funcs[f]? =some fn) (hb:fn.body=some c) (hn:fn.ntmps=n) (rs:List ResultVar)
 (h: ∀ w0 av old gv,Ae P ⟨w0,av,old,I,gv⟩ c (St.start args n) (fun e st'=>(e= .normal ∨e= .ret)∧(Di P st' rs).1∧(Di P st' rs).2.pure =true∧Q (Di P st' rs).2))
 (hent:PL.ent P f=true:=by kernel_rfl) (hr:fn.results=rs.toArray:=by kernel_rfl):CC P I f args Q:=CC.body hsta hent hf hb hn hr rfl h
end Go.PL
namespace Go.PL
open Go Go.RowKit
end Go.PL
namespace Go.PL
open Go Go.RowKit
section
variable {α:Type} {l l':List (List α)} {i j:Int} {x:List α} {y y':α} {e:α→List C} {E n:Nat}
end
section
variable {P:Program} {F:Fr} {st:St}
end
end Go.PL
namespace Go.PL
open Go Go.RowKit
inductive Kd where
 | int (k:IntKind)
 | bool
 | str
 | lst (E:Nat)
def KA (den:Nat→Type):Kd→Type
 | .int _=>Int
 | .bool =>Bool
 | .str =>List UInt8
 | .lst E=>List (den E)
def DK (den:Nat→Type):List Kd→Type
 | []=>Unit
 | k::ks=>KA den k×DK den ks
def Bd {den:Nat→Type} (enc: ∀ E,den E→List C):(k:Kd)→KA den k→C
 | .int k,n=> .int k n
 | .bool,b=> .bool b
 | .str,s=> .str s
 | .lst E,l=> .sl l.length (List.flatMap (enc E) l)
def Bv {den:Nat→Type} (enc: ∀ E,den E→List C):(ks:List Kd)→DK den ks→List C
 | [],_=>[]
 | k::ks,x=>Bd enc k x.1::Bv enc ks x.2
structure Be where
 den:Nat→Type
 inh: ∀ E,Inhabited (den E)
 enc: ∀ E,den E→List C
 ks:Nat→List Kd
 un: ∀ E,den E→DK den (ks E)
 bd: ∀ E,DK den (ks E)→den E
 beq: ∀ E,den E→den E→Bool
 unmk: ∀ E y,un E (bd E y)=y
 encok: ∀ E x,Bv enc (ks E) (un E x)=enc E x
 beqok: ∀ E x y,beq E x y=B1 (enc E x) (enc E y)
variable {T:Be}
instance (E:Nat):Inhabited (T.den E):=T.inh E
def Be.sz (T:Be) (E:Nat):Nat:=(T.ks E).length
inductive DC (T:Be) where
 | c (x:C)
 | k (kd:Kd) (x:KA T.den kd)
 | ip (E:Nat) (l:List (T.den E)) (i:Int) (x:T.den E) (off:Nat)
 | rp (id:Ah) (N:Nat) (i:Int) (off:Nat)
 | ap (id:Ah) (base n E:Nat) (i:Int) (off:Nat)
 | bs (id:Ah) (E:Nat) (o n:Int)
 | clo (b:Bool) (f:FuncId) (cs:List (DC T))
mutual
def DC.toC:DC T→C
 | .c x=>x
 | .k kd x=>Bd T.enc kd x
 | .ip E l i _ off=> .iptr (l.flatMap (T.enc E)) (i.toNat*T.sz E+off)
 | .rp id N i off=> .ptr id (i.toNat*N+off)
 | .ap id base _ E i off=> .ptr id (base+i.toNat*T.sz E+off)
 | .bs id E o n=> .rsl id (T.sz E) o.toNat n.toNat
 | .clo true f cs=> .bmv f (Aq cs)
 | .clo false f cs=> .clo f (Aq cs)
def Aq:List (DC T)→List C
 | []=>[]
 | c::cs=>c.toC::Aq cs
end
theorem BK: ∀ cs:List (DC T),Aq cs=cs.map DC.toC
 | []=>by simp [Aq]
 | c::cs=>by simp [Aq,BK cs]
structure GL where
 t:Nat
 w:Bool
 b:Bool
def AV:List GL→Bool
 | []=>true
 | [l]=>l.b
 | l::l'::ls=>AV (l'::ls)&&l.b
theorem Hk: ∀ {k:List GL},AV k=true↔ ∀ l∈k,l.b=true
 | []=>by simp [AV]
 | [l]=>by simp [AV]
 | l::l'::ls=>by
   simp only [AV,Bool.and_eq_true,Hk (k:=l'::ls),List.mem_cons]
   constructor
   ·rintro⟨h1,h2⟩ x hx
    rcases hx with rfl | hx
    ·exact h2
    ·exact h1 x hx
   ·intro h
    exact⟨fun x hx=>h x (.inr hx),h l (.inl rfl)⟩
inductive DV (T:Be) where
 | c (x:DC T)
 | agg (cs:List (DC T))
 | tup (vs:List (DV T))
 | g (key:List GL) (v:DV T)
 | u
mutual
def DV.toV:DV T→V
 | .c x=> .c x.toC
 | .agg cs=> .agg (Aq cs)
 | .tup vs=> .tup (AO vs)
 | .g key v=> .g (AV key) v.toV
 | .u => .undef
def AO:List (DV T)→List V
 | []=>[]
 | v::vs=>v.toV::AO vs
end
theorem JZ: ∀ vs:List (DV T),AO vs=vs.map DV.toV
 | []=>by simp [AO]
 | v::vs=>by simp [AO,JZ vs]
def QR (T:Be):(k:Kd)→KA T.den k→C
 | .lst E,l=> .isl E (T.sz E) l.length (List.flatMap (T.enc E) l)
 | .int k,n=> .int k n
 | .bool,b=> .bool b
 | .str,s=> .str s
def BA (T:Be):(ks:List Kd)→DK T.den ks→List C
 | [],_=>[]
 | k::ks,x=>QR T k x.1::BA T ks x.2
def Be.denc (T:Be) (E:Nat) (x:T.den E):List C:=BA T (T.ks E) (T.un E x)
def Aw (T:Be) (E:Nat) (n:Int):Int→List (T.den E)→List C
 | _,[]=>[]
 | k,x::l=>(if k<n then T.denc E x else T.enc E x)++Aw T E n (k+1) l
def A4 (T:Be) (E:Nat) (n:Int) (l:List (T.den E)):Option (Int×Nat)→List C
 | none=>Aw T E n 0 l
 | some (i,off)=>(Aw T E n 0 l).set (i.toNat*T.sz E+off) .any
inductive DX (T:Be) where
 | box (cs:List (DC T))
 | row (E:Nat) (l:List (T.den E))
 | deep (E:Nat) (n:Int) (l:List (T.den E)) (h:Option (Int×Nat))
structure DE (T:Be) where
 id:Ah
 tag:Nat
 x:DX T
def DE.toE (e:DE T):As:=match e.x with
 | .box cs=>⟨e.id,none,Aq cs,false⟩
 | .row E l=>⟨e.id,some (E,T.sz E,l.length),l.flatMap (T.enc E),true⟩
 | .deep E n l h=>⟨e.id,some (E,T.sz E,l.length),A4 T E n l h,true⟩
theorem DE.toE_id (e:DE T):e.toE.id=e.id:=by
 unfold DE.toE;split<;>rfl
abbrev Tm (T:Be):=List (Nat×Nat×DV T)
def lk:Tm T→Nat→DV T
 | [],_=> .u
 | (s,_,v)::r,i=>match Nat.beq s i with
   | true=>v
   | false=>lk r i
def QS:Tm T→Nat→Nat
 | [],_=>0
 | (s,t,_)::r,i=>match Nat.beq s i with
   | true=>t+1
   | false=>QS r i
def Au (m:Nat) (tm:Tm T):List V:=(List.range m).map fun i=>(lk tm i).toV
structure Ag (T:Be) where
 m:Nat
 tm:Tm T
 so:List (DE T)
 gh:List (Nat×Tm T)
 pre:Ah
 nx:Nat
def Ag.toSt (st:Ag T):St:=⟨Au st.m st.tm,st.so.map DE.toE,st.gh.flatMap fun f=>Au f.1 f.2,st.pre⟩
mutual
def DC.ok:DC T→Prop
 | .ip _ l i x _=>AN l i=some x
 | .bs _ _ o n=>0≤o∧0≤n
 | .clo _ _ cs=>BU cs
 | _=>True
def BU:List (DC T)→Prop
 | []=>True
 | c::cs=>c.ok∧BU cs
end
theorem BV: ∀ {cs:List (DC T)},BU cs↔ ∀ c∈cs,c.ok
 | []=>by simp [BU]
 | c::cs=>by simp [BU,BV (cs:=cs)]
structure At (T:Be) where
 v:Nat→DV T
 e:Nat→DE T
def VL:DV T→Bool
 | .c (.k .bool b)=>b
 | .g _ (.c (.k .bool b))=>b
 | _=>false
def GL.ok (H:At T) (nx:Nat) (l:GL):Prop:=l.t<nx∧l.b=(VL (H.v l.t)==l.w)
mutual
def DV.ok (H:At T) (nx:Nat):DV T→Prop
 | .c x=>x.ok
 | .agg cs=>BU cs
 | .tup vs=>Cn H nx vs
 | .g key v=>(∀ l∈key,l.ok H nx)∧(AV key=true→v.ok H nx)
 | .u =>True
def Cn (H:At T) (nx:Nat):List (DV T)→Prop
 | []=>True
 | v::vs=>v.ok H nx∧Cn H nx vs
end
theorem Hm {H:At T} {nx:Nat}: ∀ {vs:List (DV T)},Cn H nx vs↔ ∀ v∈vs,v.ok H nx
 | []=>by simp [Cn]
 | c::cs=>by simp [Cn,Hm (vs:=cs)]
def Lw (H:At T) (nx:Nat) (tm:Tm T):Prop:= ∀ s t v,(s,t,v)∈tm→t<nx∧H.v t=v∧v.ok H nx
def DX.ok:DX T→Prop
 | .box cs=>BU cs
 | .row _ _=>True
 | .deep .. =>True
structure AB (H:At T) (st:Ag T):Prop where
 tm:Lw H st.nx st.tm
 gh: ∀ f∈st.gh,Lw H st.nx f.2
 so: ∀ e∈st.so,e.tag<st.nx∧H.e e.tag=e∧e.x.ok
 nd:(st.so.map DE.id).Nodup
def Cw (nx:Nat) (H H':At T):Prop:= ∀ t,t<nx→H'.v t=H.v t∧H'.e t=H.e t
theorem Cw.refl (nx:Nat) (H:At T):Cw nx H H:=fun _ _=>⟨rfl,rfl⟩
theorem Cw.trans {n m:Nat} {A B D:At T} (h:Cw n A B) (k:Cw m B D) (hnm:n≤m):Cw n A D:=fun t ht=>
 ⟨(k t (Nat.lt_of_lt_of_le ht hnm)).1.trans (h t ht).1,(k t (Nat.lt_of_lt_of_le ht hnm)).2.trans (h t ht).2⟩
theorem GL.ok_ext {H H':At T} {n m:Nat} (he:Cw n H H') (hnm:n≤m) {l:GL} (h:l.ok H n):l.ok H' m:=
 ⟨Nat.lt_of_lt_of_le h.1 hnm,by rw [(he l.t h.1).1];exact h.2⟩
mutual
theorem DV.ok_ext {H H':At T} {n m:Nat} (he:Cw n H H') (hnm:n≤m): ∀ {v:DV T},v.ok H n→v.ok H' m
 | .c _,h=>by simpa only [DV.ok] using h
 | .agg _,h=>by simpa only [DV.ok] using h
 | .tup vs,h=>by simp only [DV.ok]at h ⊢;exact Xk he hnm h
 | .g key v,h=>by
   simp only [DV.ok]at h ⊢
   exact⟨fun l hl=>GL.ok_ext he hnm (h.1 l hl),fun q=>DV.ok_ext he hnm (h.2 q)⟩
 | .u,_=>by simp only [DV.ok]
theorem Xk {H H':At T} {n m:Nat} (he:Cw n H H') (hnm:n≤m): ∀ {vs:List (DV T)},Cn H n vs→Cn H' m vs
 | [],_=>by simp only [Cn]
 | v::vs,h=>by simp only [Cn]at h ⊢;exact⟨DV.ok_ext he hnm h.1,Xk he hnm h.2⟩
end
theorem BB {H H':At T} {n m:Nat} (he:Cw n H H') (hnm:n≤m) {tm:Tm T} (h:Lw H n tm):Lw H' m tm:=fun s t v hm=>by
 obtain⟨h1,h2,h3⟩:=h s t v hm
 exact⟨Nat.lt_of_lt_of_le h1 hnm,by rw [(he t h1).1];exact h2,DV.ok_ext he hnm h3⟩
theorem Ms (tm:Tm T) (i:Nat):lk tm i= .u ∧QS tm i=0∨ ∃ t,(i,t,lk tm i)∈tm∧QS tm i=t+1:=by
 induction tm with
 | nil=>exact .inl ⟨rfl,rfl⟩
 | cons x r ih=>
   obtain⟨s,t,v⟩:=x
   simp only [lk,QS]
   cases hb:Nat.beq s i with
   | true=>
     have:=Nat.eq_of_beq_eq_true hb
     subst this
     exact .inr ⟨t,by simp,rfl⟩
   | false=>
     rcases ih with ⟨h1,h2⟩ | ⟨t',h1,h2⟩
     ·exact .inl ⟨h1,h2⟩
     ·exact .inr ⟨t',List.mem_cons_of_mem _ h1,h2⟩
theorem mg {H:At T} {nx:Nat} {tm:Tm T} (h:Lw H nx tm) (i:Nat):(lk tm i).ok H nx:=by
 rcases Ms tm i with ⟨h1,_⟩ | ⟨t,h1,_⟩
 ·rw [h1];simp only [DV.ok]
 ·exact(h i t _ h1).2.2
theorem QT {H:At T} {nx:Nat} {tm:Tm T} (h:Lw H nx tm) {i t:Nat} (ht:QS tm i=t+1):t<nx∧H.v t=lk tm i:=by
 rcases Ms tm i with ⟨_,h1⟩ | ⟨t',h1,h2⟩
 ·rw [h1]at ht;cases ht
 ·rw [h2]at ht;injection ht with ht;subst ht
  obtain⟨a,b,_⟩:=h i t' _ h1
  exact⟨a,b⟩
def OH:Value→Option (DC T)
 | .int k n=>some (.k (.int k) n)
 | .bool b=>some (.k .bool b)
 | .string s=>some (.k .str s.data.toList)
 | v=>match D7 v with
   | some c=>some (.c c)
   | none=>none
def Ho:List Value→Option (List (DC T))
 | []=>some []
 | v::vs=>match OH v,Ho vs with
   | some c,some cs=>some (c::cs)
   | _,_=>none
def Np:Value→DV T
 | .agg cs=>match Ho cs.toList with
   | some l=> .agg l
   | none=> .u
 | v=>match OH v with
   | some c=> .c c
   | none=> .u
theorem QU {v:Value} {c:DC T} (h:OH v=some c):D7 v=some c.toC∧c.ok:=by
 unfold OH at h
 split at h
 ·injection h with h;subst h;exact⟨rfl,by simp only [DC.ok]⟩
 ·injection h with h;subst h;exact⟨rfl,by simp only [DC.ok]⟩
 ·injection h with h;subst h;exact⟨rfl,by simp only [DC.ok]⟩
 ·split at h
  ·rename_i c' hc
   injection h with h;subst h
   exact⟨by rw [hc];simp only [DC.toC],by simp only [DC.ok]⟩
  ·cases h
theorem QV {v:Value} (h:OH (T:=T) v=none):D7 v=none:=by
 unfold OH at h
 split at h<;>try (cases h;done)
 split at h
 ·cases h
 ·assumption
theorem J0: ∀ {vs:List Value} {cs:List (DC T)},Ho vs=some cs→Dh vs=some (Aq cs)∧BU cs
 | [],cs,h=>by simp [Ho]at h;subst h;simp [Dh,Aq,BU]
 | v::vs,cs,h=>by
   unfold Ho at h
   split at h
   ·rename_i c cs' h1 h2
    injection h with h;subst h
    obtain⟨a,b⟩:=QU h1
    obtain⟨a',b'⟩:=J0 h2
    simp [Dh,a,a',Aq,BU,b,b']
   ·cases h
theorem OI: ∀ {vs:List Value},Ho (T:=T) vs=none→Dh vs=none
 | [],h=>by simp [Ho]at h
 | v::vs,h=>by
   unfold Ho at h
   split at h
   ·cases h
   ·rename_i hne
    unfold Dh
    cases h1:OH (T:=T) v with
    | none=>rw [QV h1]
    | some c=>
      cases h2:Ho (T:=T) vs with
      | none=>rw [OI h2];cases D7 v<;>rfl
      | some cs=>exact(hne c cs h1 h2).elim
theorem OJ (v:Value) {H:At T} {nx:Nat}:(Np (T:=T) v).toV =I2 v∧(Np (T:=T) v).ok H nx:=by
 cases v
 case agg cs=>
  simp only [Np,I2]
  cases h:Ho (T:=T) cs.toList with
  | some l=>
    obtain⟨a,b⟩:=J0 h
    simp only [a,DV.toV,DV.ok];exact⟨trivial,b⟩
  | none=>simp only [OI h,DV.toV,DV.ok];exact⟨trivial,trivial⟩
 all_goals
  simp only [Np,I2]
  split
  ·rename_i c h
   obtain⟨a,b⟩:=QU h
   simp only [a,DV.toV,DV.ok];exact⟨trivial,b⟩
  ·rename_i h
   simp only [QV h,DV.toV,DV.ok];exact⟨trivial,trivial⟩
def Ag.get (st:Ag T) (t:Nat):DV T:=match Nat.blt t st.m with
 | true=>lk st.tm t
 | false=> .u
def Ag.ev (st:Ag T):Operand→DV T
 | .tmp t=>st.get t
 | .const v=>Np v
 | .func f=> .c (.c (.fn f))
 | .global _=> .u
theorem ID (m:Nat) (tm:Tm T) (t:Nat):(Au m tm).getD t .undef =(match Nat.blt t m with | true=>(lk tm t).toV | false=> .undef):=by
 unfold Au
 rw [List.getD_eq_getElem?_getD,List.getElem?_map]
 cases hb:Nat.blt t m with
 | true=>
   have:t<m:=by simpa using hb
   rw [List.getElem?_range this];rfl
 | false=>
   have: ¬t<m:=by
    intro h
    have h2:Nat.blt t m=true:=by simpa using h
    rw [h2]at hb;cases hb
   rw [List.getElem?_eq_none (by simpa using this)];rfl
theorem Ag.get_toSt (st:Ag T) (t:Nat):st.toSt.get t=(st.get t).toV :=by
 show (Au st.m st.tm).getD t .undef =_
 rw [ID]
 unfold Ag.get
 split<;>simp only [DV.toV]
theorem Ag.get_ok {H:At T} {st:Ag T} (h:AB H st) (t:Nat):(st.get t).ok H st.nx:=by
 unfold Ag.get
 split
 ·exact mg h.tm t
 ·simp only [DV.ok]
theorem Ag.ev_toSt (st:Ag T) (x:Operand):st.toSt.ev x=(st.ev x).toV :=by
 cases x with
 | tmp t=>exact st.get_toSt t
 | const v=>exact(OJ (T:=T) v (H:=⟨fun _=> .u,fun _=>⟨[],0, .box []⟩⟩) (nx:=0)).1.symm
 | func f=>simp only [St.ev,Ag.ev,DV.toV,DC.toC]
 | global g=>simp only [St.ev,Ag.ev,DV.toV]
theorem Ag.ev_ok {H:At T} {st:Ag T} (h:AB H st) (x:Operand):(st.ev x).ok H st.nx:=by
 cases x with
 | tmp t=>exact Ag.get_ok h t
 | const v=>exact(OJ v).2
 | func f=>simp only [Ag.ev,DV.ok,DC.ok]
 | global g=>simp only [Ag.ev,DV.ok]
def GL.eq (a b:GL):Bool:=Nat.beq a.t b.t&&(a.w==b.w)
def QW (l:GL):List GL→Bool
 | []=>false
 | a::r=>match GL.eq l a with
   | true=>true
   | false=>QW l r
def Lx:List GL→List GL→Bool
 | [],_=>true
 | l::ls,k=>match QW l k with
   | true=>Lx ls k
   | false=>false
def Ei (H:At T) (nx:Nat) (k:List GL):Prop:= ∀ l∈k,l.ok H nx
theorem GL.eq_b {H:At T} {nx:Nat} {a b:GL} (h:a.eq b=true) (ha:a.ok H nx) (hb:b.ok H nx):a.b=b.b:=by
 simp only [GL.eq,Bool.and_eq_true,Nat.beq_eq,beq_iff_eq]at h
 rw [ha.2,hb.2,h.1,h.2]
theorem Xl {H:At T} {nx:Nat} {l:GL}: ∀ {k:List GL},QW l k=true→l.ok H nx→Ei H nx k→AV k=true→l.b=true
 | [],h,_,_,_=>by simp [QW]at h
 | a::r,h,hl,hk,hc=>by
   unfold QW at h
   have hc':=Hk.1 hc
   split at h
   ·rename_i he
    rw [GL.eq_b he hl (hk a (by simp))]
    exact hc' a (by simp)
   ·exact Xl h hl (fun x hx=>hk x (by simp [hx])) (Hk.2 fun x hx=>hc' x (by simp [hx]))
theorem J1 {H:At T} {nx:Nat}: ∀ {ls k:List GL},Lx ls k=true→Ei H nx ls→Ei H nx k→AV k=true→AV ls=true
 | [],_,_,_,_,_=>rfl
 | l::ls,k,h,h1,h2,hc=>by
   unfold Lx at h
   split at h
   ·rename_i hh
    have a:=Xl hh (h1 l (by simp)) h2 hc
    have b:=J1 h (fun x hx=>h1 x (by simp [hx])) h2 hc
    refine Hk.2 fun x hx=>?_
    rcases List.mem_cons.1 hx with rfl | hx
    ·exact a
    ·exact Hk.1 b x hx
   ·cases h
def Ag.arg (st:Ag T) (key:List GL) (x:Operand):Option (DV T):=match st.ev x with
 | .g k v=>match Lx k key with
   | true=>some v
   | false=>none
 | v=>some v
theorem Ag.arg_spec {H:At T} {st:Ag T} {key:List GL} {x:Operand} {v:DV T} (hw:AB H st) (hk:Ei H st.nx key) (h:st.arg key x=some v) (hc:AV key=true):
 v.ok H st.nx∧(st.toSt.arg (AV key) x).1∧(st.toSt.arg (AV key) x).2=v.toV:=by
 have hev:=Ag.ev_ok hw x
 have e:=st.ev_toSt x
 unfold Ag.arg at h
 unfold St.arg
 split at h
 ·rename_i k v' hx
  split at h
  ·rename_i hs
   injection h with h;subst h
   rw [hx]at e hev
   simp only [DV.ok]at hev
   simp only [DV.toV]at e
   rw [e]
   have:=J1 hs hev.1 hk hc
   exact⟨hev.2 this,fun _=>this,rfl⟩
  ·cases h
 ·rename_i hne
  injection h with h;subst h
  refine⟨hev,?_⟩
  rw [e]
  cases hv:st.ev x with
  | g k v=>exact(hne k v hv).elim
  | c x=>simp only [DV.toV];exact⟨trivial,trivial⟩
  | agg x=>simp only [DV.toV];exact⟨trivial,trivial⟩
  | tup x=>simp only [DV.toV];exact⟨trivial,trivial⟩
  | u=>simp only [DV.toV];exact⟨trivial,trivial⟩
def M (α:Type):=(R:Type)→(α→Option R)→Option R
namespace M
variable {α β:Type}
def ret (v:α):M α:=fun _ K=>K v
def no:M α:=fun _ _=>none
def sm (o:Option α):M α:=fun _ K=>match o with
 | some v=>K v
 | none=>none
def opt (o:Option β) (f:β→M α):M α:=fun R K=>o.bind fun x=>f x R K
def bnd (m:M β) (f:β→M α):M α:=fun R K=>m R fun x=>f x R K
end M
def Yl {α:Type} (m:M α) (Φ:α→Prop):Prop:= ∀ (R:Type) (K:α→Option R) (r:R),m R K=some r→ ∃ v,Φ v∧K v=some r
namespace Yl
variable {α β:Type} {Φ:α→Prop}
theorem ret {v:α} (h:Φ v):Yl (M.ret v) Φ:=fun _ _ _ hr=>⟨v,h,hr⟩
theorem no:Yl (M.no) Φ:=fun _ _ _ hr=>by cases hr
theorem sm {o:Option α} (h: ∀ v,o=some v→Φ v):Yl (M.sm o) Φ:=fun R K r hr=>by
 unfold M.sm at hr
 split at hr
 ·exact⟨_,h _ rfl,hr⟩
 ·cases hr
theorem opt {o:Option β} {f:β→M α} (h: ∀ x,o=some x→Yl (f x) Φ):Yl (M.opt o f) Φ:=fun R K r hr=>by
 unfold M.opt at hr
 obtain⟨x,h1,h2⟩:=bS hr
 exact h x h1 R K r h2
theorem bnd {m:M β} {f:β→M α} {Ψ:β→Prop} (hm:Yl m Ψ) (h: ∀ x,Ψ x→Yl (f x) Φ):Yl (M.bnd m f) Φ:=fun R K r hr=>by
 obtain⟨v,h1,h2⟩:=hm R _ r hr
 exact h v h1 R K r h2
theorem mono {m:M α} {Ψ:α→Prop} (hm:Yl m Ψ) (h: ∀ x,Ψ x→Φ x):Yl m Φ:=fun R K r hr=>by
 obtain⟨v,h1,h2⟩:=hm R K r hr
 exact⟨v,h v h1,h2⟩
end Yl
def gk {α:Type} [Inhabited α] (key:List GL) (o:Option α):Option α:=match key with
 | []=>o
 | l::ls=>gd (AV (l::ls)) o
theorem Mt {α:Type} [Inhabited α] {key:List GL} {o:Option α} {x:α} (h:gk key o=some x) (hc:AV key=true):o=some x:=by
 unfold gk at h
 split at h
 ·exact h
 ·exact QN h hc
end Go.PL
namespace Go.PL
open Go Go.RowKit
variable {T:Be}
def OK {den:Nat→Type} {T:Be} (h: ∀ k,KA den k→DC T):(ks:List Kd)→DK den ks→List (DC T)
 | [],_=>[]
 | k::ks,x=>h k x.1::OK h ks x.2
def VM (E:Nat) (x:T.den E):List (DC T):=OK (fun k y=> .k k y) (T.ks E) (T.un E x)
theorem QX: ∀ (ks:List Kd) (y:DK T.den ks),Aq (OK (T:=T) (fun k y=> .k k y) ks y)=Bv T.enc ks y
 | [],_=>by simp [OK,Aq,Bv]
 | k::ks,y=>by simp only [OK,Aq,Bv,QX ks,DC.toC]
theorem E3 (E:Nat) (x:T.den E):Aq (VM E x)=T.enc E x:=by rw [VM,QX,T.encok]
theorem Xm: ∀ (ks:List Kd) (y:DK T.den ks),BU (OK (T:=T) (fun k y=> .k k y) ks y)
 | [],_=>by simp [OK,BU]
 | k::ks,y=>by simp only [OK,BU,DC.ok];exact⟨trivial,Xm ks y.2⟩
theorem Jc (E:Nat) (x:T.den E):BU (VM E x):=Xm _ _
theorem Uy {den:Nat→Type} {enc: ∀ E,den E→List C}: ∀ (ks:List Kd) (y:DK den ks),(Bv enc ks y).length =ks.length
 | [],_=>rfl
 | k::ks,y=>by simp [Bv,Uy ks]
theorem AD (E:Nat) (x:T.den E):(T.enc E x).length =T.sz E:=by rw [←T.encok,Uy];rfl
theorem QY {den:Nat→Type} {enc: ∀ E,den E→List C} (k:Kd) (x:KA den k):(Bd enc k x).pure =true:=by
 cases k<;>rfl
theorem QZ {den:Nat→Type} {enc: ∀ E,den E→List C}: ∀ (ks:List Kd) (y:DK den ks),Ao (Bv enc ks y)=true
 | [],_=>rfl
 | k::ks,y=>by simp only [Bv,Ao,QY,QZ ks,Bool.and_self]
theorem Q1 (E:Nat) (x:T.den E):Ao (T.enc E x)=true:=by rw [←T.encok];exact QZ _ _
theorem cd (E:Nat) (l:List (T.den E)):Ao (l.flatMap (T.enc E))=true:=AF _ (Q1 E) l
def Gv (nils:Bool):(k:Kd)→DC T→Option (KA T.den k)
 | .int k, .k (.int k') n=>match k'==k with
   | true=>some n
   | false=>none
 | .bool, .k .bool b=>some b
 | .str, .k .str s=>some s
 | .lst E, .k (.lst E') l=>match Nat.decEq E' E with
   | .isTrue h=>some (show List (T.den E)from h▸l)
   | .isFalse _=>none
 | .lst E, .c (.sl 0 [])=>some ([]:List (T.den E))
 | .lst E, .c .nils =>match nils with
   | true=>some ([]:List (T.den E))
   | false=>none
 | _,_=>none
def Uz (nils:Bool):(ks:List Kd)→List (DC T)→Option (DK T.den ks)
 | [],[]=>some ()
 | k::ks,c::cs=>match Gv nils k c,Uz nils ks cs with
   | some x,some y=>some (x,y)
   | _,_=>none
 | _,_=>none
def dl (nils:Bool) (E:Nat) (cs:List (DC T)):Option (T.den E):=match Uz nils (T.ks E) cs with
 | some y=>some (T.bd E y)
 | none=>none
theorem Co {nils:Bool} {k:Kd} {c:DC T} {x:KA T.den k} (h:Gv nils k c=some x):Fk c.toC=Bd T.enc k x∧(nils=false→c.toC=Bd T.enc k x):=by
 unfold Gv at h
 split at h
 ·split at h
  ·rename_i hb
   have:=beq_iff_eq.1 hb
   subst this
   injection h with h;subst h
   exact⟨rfl,fun _=>rfl⟩
  ·cases h
 ·injection h with h;subst h;exact⟨rfl,fun _=>rfl⟩
 ·injection h with h;subst h;exact⟨rfl,fun _=>rfl⟩
 ·split at h
  ·rename_i e _
   subst e
   injection h with h;subst h
   exact⟨rfl,fun _=>rfl⟩
  ·cases h
 ·injection h with h;subst h;exact⟨rfl,fun _=>rfl⟩
 ·split at h
  ·injection h with h;subst h;exact⟨rfl,fun q=>by cases q⟩
  ·cases h
 ·cases h
theorem Q2 {nils:Bool}: ∀ {ks:List Kd} {cs:List (DC T)} {y:DK T.den ks},Uz nils ks cs=some y→(Aq cs).map Fk=Bv T.enc ks y∧(nils=false→Aq cs=Bv T.enc ks y)
 | [],[],y,_=>by simp [Aq,Bv]
 | [],_::_,_,h=>by simp [Uz]at h
 | _::_,[],_,h=>by simp [Uz]at h
 | k::ks,c::cs,y,h=>by
   unfold Uz at h
   split at h
   ·rename_i x y' h1 h2
    injection h with h;subst h
    obtain⟨a1,a2⟩:=Co h1
    obtain⟨b1,b2⟩:=Q2 h2
    simp only [Aq,List.map_cons,Bv,a1,b1,true_and]
    intro hn
    rw [a2 hn,b2 hn]
   ·cases h
theorem F2 {nils:Bool} {E:Nat} {cs:List (DC T)} {x:T.den E} (h:dl nils E cs=some x):(Aq cs).map Fk=T.enc E x∧(nils=false→Aq cs=T.enc E x):=by
 unfold dl at h
 split at h
 ·rename_i y hy
  injection h with h;subst h
  rw [←T.encok,T.unmk]
  exact Q2 hy
 ·cases h
def Ij (E:Nat):Nat→List (DC T)→Option (List (T.den E))
 | 0,_=>some []
 | n+1,cs=>match dl false E (cs.take (T.sz E)),Ij E n (cs.drop (T.sz E))with
   | some x,some l=>some (x::l)
   | _,_=>none
theorem GQ (n:Nat) (cs:List (DC T)):Aq (cs.take n)=(Aq cs).take n:=by simp [BK,List.map_take]
theorem EM (n:Nat) (cs:List (DC T)):Aq (cs.drop n)=(Aq cs).drop n:=by simp [BK,List.map_drop]
theorem BQ (a b:List (DC T)):Aq (a++b)=Aq a++Aq b:=by simp [BK]
theorem Ax (a:List (DC T)):(Aq a).length =a.length:=by simp [BK]
theorem Dt {E:Nat}: ∀ {n:Nat} {cs:List (DC T)} {l:List (T.den E)},Ij E n cs=some l→l.length=n∧ ∃ r,Aq cs=l.flatMap (T.enc E)++r
 | 0,cs,l,h=>by simp [Ij]at h;subst h;exact⟨rfl,Aq cs,by simp⟩
 | n+1,cs,l,h=>by
   unfold Ij at h
   split at h
   ·rename_i x l' h1 h2
    injection h with h;subst h
    have a:=(F2 h1).2 rfl
    obtain⟨b1,r,b2⟩:=Dt h2
    refine⟨by simp [b1],r,?_⟩
    rw [GQ]at a
    rw [EM]at b2
    rw [List.flatMap_cons,List.append_assoc, ←b2, ←a,List.take_append_drop]
   ·cases h
def Cp (ag:Bool) (off n:Nat) (cs:List (DC T)):DV T:=match ag with
 | true=> .agg ((cs.drop off).take n)
 | false=> .c (cs.getD off (.c .any))
theorem Fv (ag:Bool) (off n:Nat) (cs:List (DC T)):(Cp ag off n cs).toV =toV ag off n (Aq cs):=by
 cases ag
 ·simp only [Cp,DV.toV,toV,BK]
  rw [if_neg (by simp),List.getD_eq_getElem?_getD,List.getD_eq_getElem?_getD,List.getElem?_map]
  cases cs[off]? <;>simp [DC.toC]
 ·simp only [Cp,DV.toV,toV,GQ,EM];rfl
theorem KB {cs:List (DC T)} (h:BU cs) (n:Nat):BU (cs.take n):=BV.2 fun c hc=>BV.1 h c (List.mem_of_mem_take hc)
theorem KC {cs:List (DC T)} (h:BU cs) (n:Nat):BU (cs.drop n):=BV.2 fun c hc=>BV.1 h c (List.mem_of_mem_drop hc)
theorem CF {a b:List (DC T)} (h:BU a) (k:BU b):BU (a++b):=BV.2 fun c hc=>by
 rcases List.mem_append.1 hc with q | q
 ·exact BV.1 h c q
 ·exact BV.1 k c q
theorem F3 {H:At T} {nx:Nat} (ag:Bool) (off n:Nat) {cs:List (DC T)} (h:BU cs):(Cp ag off n cs).ok H nx:=by
 cases ag
 ·simp only [Cp,DV.ok]
  rw [List.getD_eq_getElem?_getD]
  cases hx:cs[off]? with
  | none=>simp [DC.ok]
  | some c=>exact BV.1 h c (List.mem_of_getElem? hx)
 ·simp only [Cp,DV.ok];exact KB (KC h _) _
def A1:Ah→Ah→Bool
 | [],[]=>true
 | a::x,b::y=>match Nat.beq a b with
   | true=>A1 x y
   | false=>false
 | _,_=>false
theorem Az: ∀ {a b:Ah},A1 a b=true↔a=b
 | [],[]=>by simp [A1]
 | [],_::_=>by simp [A1]
 | _::_,[]=>by simp [A1]
 | a::x,b::y=>by
   unfold A1
   cases h:Nat.beq a b with
   | true=>
     have:=Nat.eq_of_beq_eq_true h
     subst this
     simp [Az (a:=x) (b:=y)]
   | false=>
     have:a ≠ b:=fun e=>by subst e;simp at h
     simp [this]
def az:List (DC T)→Bool
 | [.c (.mp _)]=>true
 | _=>false
def Fl:List (DE T)→Ah→Option (DE T)
 | [],_=>none
 | e::r,id=>match A1 e.id id with
   | true=>some e
   | false=>Fl r id
def DX.isM:DX T→Bool
 | .box cs=>az cs
 | .row _ _=>false
 | .deep .. =>false
def Ag.look (st:Ag T) (id:Ah):Option (DX T):=match CJ id||Ed id with
 | true=>none
 | false=>match Fl st.so id with
   | some e=>match e.x.isM with
     | true=>none
     | false=>some e.x
   | none=>none
theorem Cq: ∀ {l:List (DE T)} {id:Ah} {e:DE T},Fl l id=some e→e∈l∧e.id=id∧ ∀ p:As→Bool,(∀ x:DE T,x.id ≠ id→p x.toE=false)→p e.toE=true→(l.map DE.toE).find? p=some e.toE
 | [],_,_,h=>by simp [Fl]at h
 | x::r,id,e,h=>by
   unfold Fl at h
   split at h
   ·rename_i hb
    injection h with h;subst h
    exact⟨by simp,Az.1 hb,fun p _ hp=>by simp [List.find?_cons,hp]⟩
   ·rename_i hb
    obtain⟨h1,h2,h3⟩:=Cq h
    refine⟨by simp [h1],h2,fun p hp he=>?_⟩
    have hne:x.id ≠ id:=fun q=>by rw [Az.2 q]at hb;cases hb
    rw [List.map_cons,List.find?_cons,hp x hne]
    exact h3 p hp he
theorem UA {cs:List (DC T)} (h:az cs=false) (hk: ∀ c∈cs, ∀ kv,c.toC= .mp kv→c= .c (.mp kv)):Vk (Aq cs)=false:=by
 match cs with
 | []=>rfl
 | [c]=>
   simp only [Aq,Vk]
   split
   ·rename_i kv he
    injection he with he _
    have:=hk c (by simp) kv he
    subst this
    simp [az]at h
   ·rfl
 | a::b::r=>
   simp only [Aq]
   generalize a.toC=x
   generalize b.toC=y
   generalize Aq r=z
   cases x<;>rfl
theorem dW (c:DC T) (kv:List (Int×Int)) (h:c.toC= .mp kv):c= .c (.mp kv):=by
 cases c with
 | c x=>simp only [DC.toC]at h;subst h;rfl
 | k kd x=>cases kd<;>simp [DC.toC,Bd]at h
 | ip=>simp [DC.toC]at h
 | rp=>simp [DC.toC]at h
 | ap=>simp [DC.toC]at h
 | bs=>simp [DC.toC]at h
 | clo b f cs=>cases b<;>simp [DC.toC]at h
theorem Ag.look_spec {st:Ag T} {id:Ah} {x:DX T} (h:st.look id=some x): ∃ e,e∈st.so∧e.id=id∧e.x=x∧st.toSt.look id=some e.toE∧st.toSt.lookR id=some e.toE∧Ed id=false∧CJ id=false:=by
 unfold Ag.look at h
 split at h
 ·cases h
 ·rename_i hd
  simp only [Bool.or_eq_false_iff]at hd
  split at h
  ·rename_i e he
   split at h
   ·cases h
   ·rename_i hm
    injection h with h;subst h
    obtain⟨h1,h2,h3⟩:=Cq he
    have hM:e.toE.isM=false:=by
     unfold DE.toE As.isM
     cases hx:e.x with
     | box cs=>
       rw [hx]at hm
       exact UA hm (fun c _ kv q=>dW c kv q)
     | row E l=>rfl
     | deep E n l h=>rfl
    have hid:=e.toE_id
    refine⟨e,h1,h2,rfl,?_,?_,hd.2,hd.1⟩
    ·refine h3 _ (fun y hy=>?_) ?_
     ·simp only [DE.toE_id,Bool.and_eq_false_iff,beq_eq_false_iff_ne];exact .inl hy
     ·simp only [hid,h2,hM,hd.2];simp
    ·refine h3 _ (fun y hy=>?_) ?_
     ·simp only [DE.toE_id,Bool.and_eq_false_iff,beq_eq_false_iff_ne];exact .inl hy
     ·simp only [hid,h2,hM];simp
  ·cases h
theorem DE.toE_box {e:DE T} {cs:List (DC T)} (h:e.x= .box cs):e.toE=⟨e.id,none,Aq cs,false⟩:=by unfold DE.toE;rw [h]
theorem DE.toE_row {e:DE T} {E:Nat} {l:List (T.den E)} (h:e.x= .row E l):e.toE=⟨e.id,some (E,T.sz E,l.length),l.flatMap (T.enc E),true⟩:=by unfold DE.toE;rw [h]
def Et (ag:Bool) (off n N:Nat):Bool:=Nat.ble (off+n) N&&(ag||Nat.blt 0 n)
theorem Ci {ag:Bool} {off n N:Nat} (h:Et ag off n N=true):off+n≤N∧(ag=true∨0<n):=by
 simp only [Et,Bool.and_eq_true,Nat.ble_eq,Bool.or_eq_true,Nat.blt_eq]at h;exact h
def HW (st:Ag T) (id:Ah):Option (List (DC T)):=match st.look id with
 | some (.box cs)=>some cs
 | _=>none
def Db (st:Ag T) (id:Ah):Option ((E:Nat)×List (T.den E)):=match st.look id with
 | some (.row E l)=>some ⟨E,l⟩
 | _=>none
theorem Fw {st:Ag T} {id:Ah} {cs:List (DC T)} (h:HW st id=some cs):st.toSt.look id=some ⟨id,none,Aq cs,false⟩∧st.toSt.lookR id=some ⟨id,none,Aq cs,false⟩∧ ∃ e∈st.so,e.id=id∧e.x= .box cs:=by
 unfold HW at h
 split at h
 ·rename_i cs' hl
  injection h with h;subst h
  obtain⟨e,h1,h2,h3,h4,h5,_⟩:=Ag.look_spec hl
  have:=DE.toE_box h3
  rw [h2]at this
  rw [←this]
  exact⟨h4,h5,e,h1,h2,h3⟩
 ·cases h
theorem BF {st:Ag T} {id:Ah} {E:Nat} {l:List (T.den E)} (h:Db st id=some ⟨E,l⟩):st.toSt.look id=some ⟨id,some (E,T.sz E,l.length),l.flatMap (T.enc E),true⟩∧st.toSt.lookR id=some ⟨id,some (E,T.sz E,l.length),l.flatMap (T.enc E),true⟩∧ ∃ e∈st.so,e.id=id∧e.x= .row E l:=by
 unfold Db at h
 split at h
 ·rename_i E' l' hl
  injection h with h
  injection h with h1 h2
  subst h1
  have h2:=eq_of_heq h2
  subst h2
  obtain⟨e,h1,h2,h3,h4,h5,_⟩:=Ag.look_spec hl
  have:=DE.toE_row h3
  rw [h2]at this
  rw [←this]
  exact⟨h4,h5,e,h1,h2,h3⟩
 ·cases h
theorem Mu {H:At T} {st:Ag T} (hw:AB H st) {id:Ah} {cs:List (DC T)} (h:HW st id=some cs):BU cs:=by
 obtain⟨_,_,e,h1,_,h3⟩:=Fw h
 have:=(hw.so e h1).2.2
 rw [h3]at this
 exact this
def IE (st:Ag T) (id:Ah):Option ((E:Nat)×(Int×List (T.den E)×Option (Int×Nat))):=match CJ id with
 | true=>none
 | false=>match Fl st.so id with
   | some e=>match e.x with
     | .deep E n l h=>some ⟨E,(n,l,h)⟩
     | _=>none
   | none=>none
theorem Ce {st:Ag T} {id:Ah} {E:Nat} {n:Int} {l:List (T.den E)} {h:Option (Int×Nat)} (hr:IE st id=some ⟨E,(n,l,h)⟩):CJ id=false∧st.toSt.lookR id=some ⟨id,some (E,T.sz E,l.length),A4 T E n l h,true⟩∧ ∃ e∈st.so,e.id=id∧e.x= .deep E n l h:=by
 unfold IE at hr
 split at hr
 ·cases hr
 ·rename_i hmk
  split at hr
  ·rename_i e he
   split at hr
   ·rename_i E' n' l' h' hx
    injection hr with hr
    injection hr with h1 h2
    subst h1
    have h2:=eq_of_heq h2
    injection h2 with h2 h3
    injection h3 with h3 h4
    subst h2 h3 h4
    obtain⟨a,b,c⟩:=Cq he
    have hE:e.toE=⟨id,some (E',T.sz E',l'.length),A4 T E' n' l' h',true⟩:=by unfold DE.toE;rw [hx,b]
    refine⟨hmk,?_,e,a,b,hx⟩
    rw [←hE]
    refine c _ (fun y hy=>?_) ?_
    ·simp only [DE.toE_id,Bool.and_eq_false_iff,beq_eq_false_iff_ne];exact .inl hy
    ·rw [hE];simp [As.isM]
   ·cases hr
  ·cases hr
def aA (st:Ag T) (id:Ah):Option ((E:Nat)×List (T.den E)):=match Db st id with
 | some r=>some r
 | none=>match IE st id with
   | some ⟨E,(_,l,_)⟩=>some ⟨E,l⟩
   | none=>none
theorem Q3 {st:Ag T} {id:Ah} {E:Nat} {l:List (T.den E)} (h:aA st id=some ⟨E,l⟩): ∃ e,st.toSt.lookR id=some e∧e.row=some (E,T.sz E,l.length):=by
 unfold aA at h
 split at h
 ·rename_i r hr
  injection h with h
  subst h
  exact⟨_,(BF hr).2.1,rfl⟩
 ·split at h
  ·rename_i E' n' l' h' hr
   injection h with h
   injection h with h1 h2
   subst h1
   have h2:=eq_of_heq h2
   subst h2
   exact⟨_,(Ce hr).2.1,rfl⟩
  ·cases h
theorem Q4: ∀ (ks:List Kd) (y:DK T.den ks),(BA T ks y).length =ks.length
 | [],_=>rfl
 | k::ks,y=>by simp only [BA,List.length_cons,Q4 ks y.2]
theorem Du (E:Nat) (x:T.den E):(T.denc E x).length =T.sz E:=Q4 _ _
theorem Fz (E:Nat) (n:Int): ∀ (k:Int) (l:List (T.den E)),(Aw T E n k l).length =l.length*T.sz E
 | _,[]=>by simp [Aw]
 | k,x::l=>by
   rw [Aw,List.length_append,Fz E n (k+1) l,List.length_cons,Nat.add_mul,Nat.one_mul,Nat.add_comm]
   congr 1
   split
   ·exact Du E x
   ·exact AD E x
theorem Ej (E:Nat) (n:Int) (l:List (T.den E)) (h:Option (Int×Nat)):(A4 T E n l h).length =l.length*T.sz E:=by
 unfold A4
 split
 ·exact Fz _ _ _ _
 ·rw [List.length_set];exact Fz _ _ _ _
theorem Hp {E:Nat} {n:Int}: ∀ {l:List (T.den E)} {k:Int} {i:Nat} {x:T.den E} {p:Nat},l[i]? =some x→p<T.sz E→(Aw T E n k l)[i*T.sz E+p]? =(if k+i<n then T.denc E x else T.enc E x)[p]?
 | [],_,_,_,_,h,_=>by simp at h
 | y::l,k,0,x,p,h,hp=>by
   simp only [List.getElem?_cons_zero,Option.some.injEq]at h
   subst h
   rw [Aw,Nat.zero_mul,Nat.zero_add,List.getElem?_append_left]
   ·simp
   ·split
    ·rw [Du];exact hp
    ·rw [AD];exact hp
 | y::l,k,i+1,x,p,h,hp=>by
   have hl:(if k<n then T.denc E y else T.enc E y).length =T.sz E:=by
    split
    ·exact Du E y
    ·exact AD E y
   rw [Aw,List.getElem?_append_right (by rw [hl,Nat.add_mul,Nat.one_mul];omega),hl,show (i+1)*T.sz E+p - T.sz E=i*T.sz E+p by rw [Nat.add_mul,Nat.one_mul];omega]
   rw [Hp (by simpa using h) hp]
   congr 2
   push_cast
   rw [show k+1+(i:Int)=k+((i:Int)+1) by omega]
def KD:Kd→Bool
 | .lst _=>false
 | _=>true
theorem UB: ∀ {ks:List Kd} {y:DK T.den ks} {p:Nat},(∀ k,ks[p]? =some k→KD k=true)→(BA T ks y)[p]? =(Bv T.enc ks y)[p]?
 | [],_,_,_=>rfl
 | k::ks,y,0,h=>by
   have:=h k rfl
   simp only [BA,Bv,List.getElem?_cons_zero,Option.some.injEq]
   cases k<;>first | rfl | cases this
 | k::ks,y,p+1,h=>by
   simp only [BA,Bv,List.getElem?_cons_succ]
   exact UB (fun k' hk=>h k' (by simpa using hk))
def Xn (h:Option (Int×Nat)) (off n:Nat):Bool:=match h with
 | none=>true
 | some (_,o)=> !(Nat.ble off o&&Nat.blt o (off+n))
def Y7 (T:Be) (E off n:Nat) (h:Option (Int×Nat)):Bool:=(((T.ks E).drop off).take n).all KD&&Xn h off n
theorem Y8 {i j N p q:Nat} (hp:p<N) (hq:q<N) (h:i*N+p=j*N+q):p=q:=by
 have h1:(i*N+p) % N=p:=by rw [Nat.mul_comm,Nat.mul_add_mod];exact Nat.mod_eq_of_lt hp
 have h2:(j*N+q) % N=q:=by rw [Nat.mul_comm,Nat.mul_add_mod];exact Nat.mod_eq_of_lt hq
 rw [←h1,h,h2]
theorem dX {E:Nat} {nn:Int} {l:List (T.den E)} {h:Option (Int×Nat)} {i:Nat} {x:T.den E} {p:Nat} (hx:l[i]? =some x) (hp:p<T.sz E) (hf: ∀ k,(T.ks E)[p]? =some k→KD k=true) (hh: ∀ j o,h=some (j,o)→o ≠ p∧o<T.sz E):
 (A4 T E nn l h)[i*T.sz E+p]? =(T.enc E x)[p]? :=by
 have base:(Aw T E nn 0 l)[i*T.sz E+p]? =(T.enc E x)[p]? :=by
  rw [Hp hx hp]
  split
  ·rw [Be.denc,UB hf,T.encok]
  ·rfl
 unfold A4
 split
 ·exact base
 ·rename_i j o
  rw [List.getElem?_set_ne]
  ·exact base
  ·intro e
   obtain⟨h1,h2⟩:=hh j o rfl
   exact h1 (Y8 h2 hp e)
theorem dY {E:Nat} {nn:Int} {l:List (T.den E)} {h:Option (Int×Nat)} {i:Int} {x:T.den E} {off n:Nat} {ag:Bool} (hx:AN l i=some x) (ho:Et ag off n (T.sz E)=true) (hd:Y7 T E off n h=true) (hb: ∀ j o,h=some (j,o)→o<T.sz E):
 i.toNat*T.sz E+off+n≤(A4 T E nn l h).length ∧toV ag (i.toNat*T.sz E+off) n (A4 T E nn l h)=(Cp (T:=T) ag off n (VM E x)).toV :=by
 obtain⟨h1,h2⟩:=Ci ho
 have hi:=K3 hx
 have hxx:l[i.toNat]? =some x:=by
  have:=Xf hx
  rw [List.getD_eq_getElem?_getD,List.getElem?_eq_getElem (by omega)]at this
  rw [List.getElem?_eq_getElem (by omega)]
  simpa using this.symm
 have hle:i.toNat*T.sz E+T.sz E≤l.length*T.sz E:=by
  have:(i.toNat+1)*T.sz E≤l.length*T.sz E:=Nat.mul_le_mul_right _ (by omega)
  rwa [Nat.add_mul,Nat.one_mul]at this
 simp only [Y7,Bool.and_eq_true,List.all_eq_true]at hd
 have key: ∀ p,off≤p→p<off+n→(A4 T E nn l h)[i.toNat*T.sz E+p]? =(T.enc E x)[p]? :=fun p p1 p2=>by
  refine dX hxx (by omega) (fun k hk=>?_) (fun j o e=>⟨fun eo=>?_,hb j o e⟩)
  ·refine hd.1 k ?_
   refine List.mem_of_getElem? (i:=p - off) ?_
   rw [List.getElem?_take,if_pos (by omega),List.getElem?_drop,show off+(p - off)=p by omega]
   exact hk
  ·have:=hd.2
   simp only [Xn,e,Bool.not_eq_true',Bool.and_eq_false_iff]at this
   subst eo
   rcases this with q | q
   ·rw [Nat.ble_eq_true_of_le p1]at q;cases q
   ·have:Nat.blt o (off+n)=true:=by simpa using p2
    rw [this]at q;cases q
 refine⟨by rw [Ej];omega,?_⟩
 rw [Fv,E3]
 unfold toV
 have hlen:(A4 T E nn l h).length =l.length*T.sz E:=Ej _ _ _ _
 split
 ·congr 1
  apply List.ext_getElem?
  intro q
  rw [List.getElem?_take,List.getElem?_take]
  split
  ·rw [List.getElem?_drop,List.getElem?_drop,show i.toNat*T.sz E+off+q=i.toNat*T.sz E+(off+q) by omega]
   exact key (off+q) (by omega) (by omega)
  ·rfl
 ·have hn:0<n:=by
   rcases h2 with q | q
   ·rename_i hag;exact absurd q hag
   ·exact q
  congr 1
  rw [List.getD_eq_getElem?_getD,List.getD_eq_getElem?_getD,key off (Nat.le_refl _) (by omega)]
theorem ce {E:Nat} {nn:Int} {l:List (T.den E)} {i:Int} {x:T.den E} {off n:Nat} {ag:Bool} (hx:AN l i=some x) (hn:nn≤i) (ho:Et ag off n (T.sz E)=true):
 i.toNat*T.sz E+off+n≤(A4 T E nn l none).length ∧toV ag (i.toNat*T.sz E+off) n (A4 T E nn l none)=(Cp (T:=T) ag off n (VM E x)).toV :=by
 obtain⟨h1,h2⟩:=Ci ho
 have hi:=K3 hx
 have hxx:l[i.toNat]? =some x:=by
  have:=Xf hx
  rw [List.getD_eq_getElem?_getD,List.getElem?_eq_getElem (by omega)]at this
  rw [List.getElem?_eq_getElem (by omega)]
  simpa using this.symm
 have hle:i.toNat*T.sz E+T.sz E≤l.length*T.sz E:=by
  have:(i.toNat+1)*T.sz E≤l.length*T.sz E:=Nat.mul_le_mul_right _ (by omega)
  rwa [Nat.add_mul,Nat.one_mul]at this
 have key: ∀ p,off≤p→p<off+n→(A4 T E nn l none)[i.toNat*T.sz E+p]? =(T.enc E x)[p]? :=fun p p1 p2=>by
  show (Aw T E nn 0 l)[_]? =_
  rw [Hp hxx (by omega),if_neg (by omega)]
 refine⟨by rw [Ej];omega,?_⟩
 rw [Fv,E3]
 unfold toV
 have hlen:(A4 T E nn l none).length =l.length*T.sz E:=Ej _ _ _ _
 split
 ·congr 1
  apply List.ext_getElem?
  intro q
  rw [List.getElem?_take,List.getElem?_take]
  split
  ·rw [List.getElem?_drop,List.getElem?_drop,show i.toNat*T.sz E+off+q=i.toNat*T.sz E+(off+q) by omega]
   exact key (off+q) (by omega) (by omega)
  ·rfl
 ·have hn:0<n:=by
   rcases h2 with q | q
   ·rename_i hag;exact absurd q hag
   ·exact q
  congr 1
  rw [List.getD_eq_getElem?_getD,List.getD_eq_getElem?_getD,key off (Nat.le_refl _) (by omega)]
def dZ (N:Nat):Option (Int×Nat)→Bool
 | none=>true
 | some (_,o)=>Nat.blt o N
def Xo (P:Program) (t:TypeId) (key:List GL) (st:Ag T) (v:DV T):M (DV T):=
 match Ir P t with
 | none=> .no
 | some (ag,n)=>match v with
   | .c (.c (.ptr id off))=>match HW st id with
     | some cs=>match Et ag off n cs.length with
       | true=> .ret (Cp ag off n cs)
       | false=> .no
     | none=> .no
   | .c (.ip E _ _ x off)=>match Et ag off n (T.sz E)with
     | true=> .ret (Cp ag off n (VM E x))
     | false=> .no
   | .c (.rp id N i off)=>match Db st id with
     | some ⟨E,l⟩=>match Nat.beq (T.sz E) N&&Et ag off n N with
       | true=> .opt (gk key (AN l i)) fun x=> .ret (Cp ag off n (VM E x))
       | false=> .no
     | none=>match IE st id with
       | some ⟨E,(nn,l,h)⟩=>match Nat.beq (T.sz E) N&&(Et ag off n N&&(Y7 T E off n h&&dZ (T.sz E) h))with
         | true=> .opt (gk key (AN l i)) fun x=> .ret (Cp ag off n (VM E x))
         | false=>match Nat.beq (T.sz E) N&&(Et ag off n N&&h.isNone)with
           | true=> .opt (gk key (AN l i)) fun x=> .opt (gk key (AS (nn≤i))) fun _=> .ret (Cp ag off n (VM E x))
           | false=> .no
       | none=> .no
   | .c (.ap id base m E i off)=>match HW st id with
     | some cs=>match Ij E m (cs.drop base),Et ag off n (T.sz E)&&Nat.ble base cs.length with
       | some l,true=> .opt (gk key (AN l i)) fun x=> .ret (Cp ag off n (VM E x))
       | _,_=> .no
     | none=> .no
   | _=> .no
def Rd (H:At T) (P:Program) (st:Ag T) (key:List GL) (op:Op) (v:DV T):Prop:=
 AV key=true→v.ok H st.nx∧(De P st.toSt (AV key) op).1∧(De P st.toSt (AV key) op).2=v.toV
theorem Xp {E:Nat} {l:List (T.den E)} {i:Int} {x:T.den E} {off n:Nat} {ag:Bool} (hx:AN l i=some x) (ho:Et ag off n (T.sz E)=true):
 i.toNat*T.sz E+off+n≤(l.flatMap (T.enc E)).length ∧toV ag (i.toNat*T.sz E+off) n (l.flatMap (T.enc E))=(Cp (T:=T) ag off n (VM E x)).toV :=by
 obtain⟨h1,h2⟩:=Ci ho
 refine VJ hx (fun y=>AD E y) rfl h1 h2 ?_
 rw [Fv,E3]
theorem Q5 {H:At T} {P:Program} {t:TypeId} {key:List GL} {st:Ag T} {v:DV T} (hw:AB H st) (hv:AV key=true→v.ok H st.nx):
 Yl (Xo P t key st v) (fun r=>AV key=true→r.ok H st.nx∧(C9 P t st.toSt v.toV).1∧(C9 P t st.toSt v.toV).2=r.toV):=by
 unfold Xo
 split
 ·exact Yl.no
 ·rename_i ag n ht
  split
  ·rename_i id off
   split
   ·rename_i cs hb
    split
    ·rename_i ho
     obtain⟨h1,h2⟩:=Ci ho
     refine Yl.ret fun _=>⟨F3 _ _ _ (Mu hw hb),?_⟩
     simp only [DV.toV,DC.toC,C9,ht,(Fw hb).2.1]
     rw [Fv,Ax]
     exact⟨⟨h1,h2⟩,rfl⟩
    ·exact Yl.no
   ·exact Yl.no
  ·rename_i E l i x off
   split
   ·rename_i ho
    refine Yl.ret fun hc=>⟨F3 _ _ _ (Jc E x),?_⟩
    have hx:=hv hc
    simp only [DV.ok,DC.ok]at hx
    obtain⟨a,b⟩:=Xp (T:=T) hx ho
    simp only [DV.toV,DC.toC,C9,ht]
    exact⟨⟨a,(Ci ho).2⟩,b⟩
   ·exact Yl.no
  ·rename_i id N i off
   split
   ·rename_i E l hb
    split
    ·rename_i ho
     simp only [Bool.and_eq_true,Nat.beq_eq]at ho
     obtain⟨e,ho⟩:=ho
     subst e
     refine Yl.opt fun x hx=>Yl.ret fun hc=>⟨F3 _ _ _ (Jc E x),?_⟩
     obtain⟨a,b⟩:=Xp (T:=T) (Mt hx hc) ho
     simp only [DV.toV,DC.toC,C9,ht,(BF hb).2.1]
     exact⟨⟨a,(Ci ho).2⟩,b⟩
    ·exact Yl.no
   ·split
    ·rename_i E nn l h hr
     split
     ·rename_i ho
      simp only [Bool.and_eq_true,Nat.beq_eq]at ho
      obtain⟨e,ho,hd,hi⟩:=ho
      subst e
      refine Yl.opt fun x hx=>Yl.ret fun hc=>⟨F3 _ _ _ (Jc E x),?_⟩
      obtain⟨a,b⟩:=dY (T:=T) (nn:=nn) (Mt hx hc) ho hd (fun j o e=>by subst e;simpa [dZ] using hi)
      simp only [DV.toV,DC.toC,C9,ht,(Ce hr).2.1]
      exact⟨⟨a,(Ci ho).2⟩,b⟩
     ·split
      ·rename_i ho
       simp only [Bool.and_eq_true,Nat.beq_eq,Option.isNone_iff_eq_none]at ho
       obtain⟨e,ho,hn⟩:=ho
       subst e hn
       refine Yl.opt fun x hx=>Yl.opt fun u hu=>Yl.ret fun hc=>⟨F3 _ _ _ (Jc E x),?_⟩
       obtain⟨a,b⟩:=ce (T:=T) (nn:=nn) (Mt hx hc) (CQ (Mt hu hc)) ho
       simp only [DV.toV,DC.toC,C9,ht,(Ce hr).2.1]
       exact⟨⟨a,(Ci ho).2⟩,b⟩
      ·exact Yl.no
    ·exact Yl.no
  ·rename_i id base m E i off
   split
   ·rename_i cs hb
    split
    ·rename_i l hl ho
     refine Yl.opt fun x hx=>Yl.ret fun hc=>⟨F3 _ _ _ (Jc E x),?_⟩
     simp only [Bool.and_eq_true,Nat.ble_eq]at ho
     obtain⟨ho,hbase⟩:=ho
     obtain⟨h1,h2⟩:=Ci ho
     obtain⟨hlen,r,hr⟩:=Dt hl
     rw [EM]at hr
     have:=dQ (cs:=Aq cs) (pre:=(Aq cs).take base) (post:=r) (base:=base) (e:=T.enc E) (N:=T.sz E) (o:=off) (n:=n) (ag:=ag) (v:=(Cp (T:=T) ag off n (VM E x)).toV) (off:=base+i.toNat*T.sz E+off)
      (by rw [←hr,List.take_append_drop]) (by rw [List.length_take,Ax];omega) (Mt hx hc) (fun y=>AD E y) (by omega) h1 h2 (by rw [Fv,E3])
     simp only [DV.toV,DC.toC,C9,ht,(Fw hb).2.1]
     exact⟨⟨this.1,h2⟩,this.2⟩
    ·exact Yl.no
   ·exact Yl.no
  ·exact Yl.no
end Go.PL
namespace Go.PL
open Go Go.RowKit
variable {T:Be}
def Q6 (st:Ag T):Operand→Nat
 | .tmp t=>match Nat.blt t st.m with
   | true=>QS st.tm t
   | false=>0
 | _=>0
def Nq (key:List GL) (tc:Nat) (w p:Bool):List GL:=match tc with
 | 0=>key
 | t+1=>⟨t,w,p==w⟩::key
def Nr:DV T→Option (List GL×Bool)
 | .c (.k .bool q)=>some ([],q)
 | .g k (.c (.k .bool q))=>some (k,q)
 | _=>none
def d4 (key:List GL) (tc:Nat) (p:Bool) (a b:DV T):M (DV T):=
 match Nr a,Nr b with
 | some (ka,q),some (kb,r)=>match Lx ka (Nq key tc true p),Lx kb (Nq key tc false p)with
   | true,true=> .ret (.c (.k .bool (if p=true then q else r)))
   | _,_=> .no
 | _,_=> .no
def Q7 (op:BinOp) (k:IntKind) (a b:Int):DC T:=
 match op with
 | .add => .k (.int k) (k.wrap (a+b))
 | .sub => .k (.int k) (k.wrap (a - b))
 | .mul => .k (.int k) (k.wrap (a*b))
 | .quo => .k (.int k) (k.wrap (a.tdiv b))
 | .rem => .k (.int k) (a.tmod b)
 | .and => .k (.int k) (Yw k a b)
 | .or => .k (.int k) (nf k a b)
 | .xor => .k (.int k) (L9 k a b)
 | .andNot => .k (.int k) (Vm k a b)
 | .shl => .k (.int k) (k.wrap (a*2 ^ (min b.toNat k.bits)))
 | .shr => .k (.int k) (a.fdiv (2 ^ (min b.toNat k.bits)))
 | .eql => .k .bool (a==b)
 | .neq => .k .bool (a != b)
 | .lss => .k .bool (decide (a<b))
 | .leq => .k .bool (decide (a≤b))
 | .gtr => .k .bool (decide (b<a))
 | .geq => .k .bool (decide (b≤a))
theorem d5 (op:BinOp) (k:IntKind) (a b:Int):(Q7 (T:=T) op k a b).toC =(HL op k a b).2∧(Q7 (T:=T) op k a b).ok :=by
 cases op<;>exact⟨rfl,by simp only [Q7,DC.ok]⟩
def mh (op:BinOp) (a b:List UInt8):Option (DC T):=
 match op with
 | .eql =>some (.k .bool (a==b))
 | .neq =>some (.k .bool (a != b))
 | .lss =>some (.k .bool (Op.bytesLess a b))
 | .leq =>some (.k .bool (Op.bytesLess a b||a==b))
 | .gtr =>some (.k .bool (!(Op.bytesLess a b||a==b)))
 | .geq =>some (.k .bool (!Op.bytesLess a b))
 | _=>none
def Xq (op:BinOp) (b:Bool):Option (DC T):=
 match op with
 | .eql =>some (.k .bool b)
 | .neq =>some (.k .bool !b)
 | _=>none
def mIf {α:Type} (b:Bool) (m:M α):M α:=match b with
 | true=>m
 | false=> .no
theorem Yl.mIf {α:Type} {Φ:α→Prop} {b:Bool} {m:M α} (h:b=true→Yl m Φ):Yl (PL.mIf b m) Φ:=by
 cases b with
 | true=>exact h rfl
 | false=>exact Yl.no
def d6:Operand→Bool
 | .const (.int _ n)=> !(decide (n=0))
 | _=>false
def d7:Operand→Bool
 | .const (.int _ n)=>decide (0≤n)
 | _=>false
def nd (lit:Bool) (key:List GL) (p:Prop) [Decidable p] (v:DV T):M (DV T):=match lit with
 | true=> .ret v
 | false=> .opt (gk key (AS p)) fun _=> .ret v
def d8 (op:BinOp) (key:List GL) (nz nn:Bool) (k:IntKind) (a b:Int):M (DV T):=
 match op with
 | .quo =>nd nz key (b ≠ 0) (.c (Q7 .quo k a b))
 | .rem =>nd nz key (b ≠ 0) (.c (Q7 .rem k a b))
 | .shl =>nd nn key (0≤b) (.c (Q7 .shl k a b))
 | .shr =>nd nn key (0≤b) (.c (Q7 .shr k a b))
 | op=> .ret (.c (Q7 op k a b))
def jq (op:BinOp) (key:List GL) (a b:List UInt8):M (DV T):=
 match op with
 | .add => .opt (gk key (mc a b)) fun s=> .ret (.c (.k .str s))
 | op=>match mh op a b with
   | some v=> .ret (.c v)
   | none=> .no
def jr (op:BinOp) (a b:Bool):M (DV T):=
 match op with
 | .eql => .ret (.c (.k .bool (a==b)))
 | .neq => .ret (.c (.k .bool (a != b)))
 | _=> .no
def kl (P:Program) (op:BinOp) (t:TypeId) (key:List GL) (kc nz nn:Bool) (x y:DV T):M (DV T):=
 match x,y with
 | .c (.k (.int k) a), .c (.k (.int k') b)=>mIf (mX op k k') (d8 op key nz nn k a b)
 | .c (.k .str a), .c (.k .str b)=>jq op key a b
 | .c (.k .bool a), .c (.k .bool b)=>mIf (Qi P t) (jr op a b)
 | .c (.c .niface), .c (.c .niface)=>mIf (kc&&HM P t)<|match Xq op true with
   | some v=> .ret (.c v)
   | none=> .no
 | .c (.c .held), .c (.c .niface)=>mIf (HM P t)<|match Xq op false with
   | some v=> .ret (.c v)
   | none=> .no
 | .c (.c (.ptr _ _)), .c (.c .nilp)=>mIf (Iw P t)<|match Xq op false with
   | some v=> .ret (.c v)
   | none=> .no
 | .c (.c .nilp), .c (.c .nilp)=>mIf (Iw P t)<|match Xq op true with
   | some v=> .ret (.c v)
   | none=> .no
 | .c (.rp _ _ _ _), .c (.c .nilp)=>mIf (Iw P t)<|match Xq op false with
   | some v=> .ret (.c v)
   | none=> .no
 | .c (.ip _ _ _ _ _), .c (.c .nilp)=>mIf (Iw P t)<|match Xq op false with
   | some v=> .ret (.c v)
   | none=> .no
 | .agg cs, .agg ds=>match dl false t cs,dl false t ds with
   | some x,some y=>mIf (YJ P t (Aq cs) (Aq ds))<|match op with
     | .eql => .ret (.c (.k .bool (T.beq t x y)))
     | .neq => .ret (.c (.k .bool !(T.beq t x y)))
     | _=> .no
   | _,_=> .no
 | _,_=> .no
section
variable {H:At T} {P:Program} {st:Ag T} {key:List GL}
theorem UC (hw:AB H st) (hk:Ei H st.nx key) {c:Operand} {p:Bool} (hp:st.arg key c=some (.c (.k .bool p))) (w:Bool):Ei H st.nx (Nq key (Q6 st c) w p):=by
 unfold Nq
 split
 ·exact hk
 ·rename_i t ht
  intro l hl
  rcases List.mem_cons.1 hl with rfl | hl
  ·unfold Q6 at ht
   split at ht
   ·rename_i i
    split at ht
    ·rename_i hb
     obtain⟨h1,h2⟩:=QT hw.tm ht
     refine⟨h1,?_⟩
     show (p==w)=(VL (H.v t)==w)
     rw [h2]
     have e:st.ev (.tmp i)=lk st.tm i:=by show st.get i=_;unfold Ag.get;rw [hb]
     unfold Ag.arg at hp
     rw [e]at hp
     split at hp
     ·rename_i k v hv
      split at hp
      ·injection hp with hp;subst hp;rw [hv];rfl
      ·cases hp
     ·injection hp with hp;rw [hp];rfl
    ·cases ht
   ·cases ht
  ·exact hk l hl
theorem OL {tc:Nat} {w p:Bool} (hc:AV key=true) (hp:p=w):AV (Nq key tc w p)=true:=by
 unfold Nq
 split
 ·exact hc
 ·refine Hk.2 fun l hl=>?_
  rcases List.mem_cons.1 hl with rfl | hl
  ·simp [hp]
  ·exact Hk.1 hc l hl
theorem OM {v:DV T} {k:List GL} {q:Bool} (h:Nr v=some (k,q)):Ll v.toV=some (AV k,q):=by
 unfold Nr at h
 split at h
 ·injection h with h;injection h with h1 h2;subst h1 h2;rfl
 ·injection h with h;injection h with h1 h2;subst h1 h2;rfl
 ·cases h
theorem UD {v:DV T} {k:List GL} {q:Bool} (h:Nr v=some (k,q)) {nx:Nat} (hv:v.ok H nx):Ei H nx k:=by
 unfold Nr at h
 split at h
 ·injection h with h;injection h with h1 h2;subst h1 h2;intro l hl;cases hl
 ·injection h with h;injection h with h1 h2;subst h1 h2
  simp only [DV.ok]at hv
  exact hv.1
 ·cases h
theorem d9 (hw:AB H st) (hk:Ei H st.nx key) {c a b:Operand} {p:Bool} (hp:st.arg key c=some (.c (.k .bool p))):
 Yl (d4 key (Q6 st c) p (st.ev a) (st.ev b)) (fun v=>AV key=true→v.ok H st.nx∧(Qm p (st.toSt.ev a) (st.toSt.ev b)).1∧(Qm p (st.toSt.ev a) (st.toSt.ev b)).2=v.toV):=by
 unfold d4
 split
 ·rename_i ka q kb r h1 h2
  split
  ·rename_i s1 s2
   refine Yl.ret fun hc=>⟨by simp only [DV.ok,DC.ok],?_⟩
   unfold Qm
   rw [st.ev_toSt,st.ev_toSt,OM h1,OM h2]
   refine⟨⟨fun e=>J1 s1 (UD h1 (Ag.ev_ok hw a)) (UC hw hk hp true) (OL hc e),fun e=>J1 s2 (UD h2 (Ag.ev_ok hw b)) (UC hw hk hp false) (OL hc e)⟩,?_⟩
   rfl
  ·exact Yl.no
 ·exact Yl.no
theorem GR {op:BinOp} {b:Bool} {v:DC T} (h:Xq op b=some v) {s:Prop} (hs:s):(JO op b s).1∧(JO op b s).2= .c v.toC∧v.ok:=by
 unfold Xq at h
 split at h
 ·injection h with h;subst h;exact⟨hs,rfl,by simp only [DC.ok]⟩
 ·injection h with h;subst h;exact⟨hs,rfl,by simp only [DC.ok]⟩
 ·cases h
theorem aD {lit:Bool} {p:Prop} [Decidable p] {v:DV T} (hl:lit=true→p):Yl (nd lit key p v) (fun r=>AV key=true→p∧r=v):=by
 unfold nd
 split
 ·exact Yl.ret fun _=>⟨hl rfl,rfl⟩
 ·exact Yl.opt fun u hu=>Yl.ret fun hc=>by
   have:=CQ (Mt hu hc)
   exact⟨this,rfl⟩
theorem ec {op:BinOp} {nz nn:Bool} {k:IntKind} {a b:Int} (h1:nz=true→b ≠ 0) (h2:nn=true→0≤b):Yl (d8 (T:=T) op key nz nn k a b) (fun v=>AV key=true→(HL op k a b).1∧v= .c (Q7 op k a b)):=by
 unfold d8
 split
 ·exact aD h1
 ·exact aD h1
 ·exact aD h2
 ·exact aD h2
 ·refine Yl.ret fun hc=>⟨?_,rfl⟩
  cases op<;>first | trivial | simp_all
def js (nz nn:Bool) (y:DV T):Prop:= ∀ (k:IntKind) (b:Int),y= .c (.k (.int k) b)→(nz=true→b ≠ 0)∧(nn=true→0≤b)
theorem gM {op:BinOp} {t:TypeId} {kc nz nn:Bool} {x y:DV T} (hlit:js nz nn y):
 Yl (kl P op t key kc nz nn x y) (fun v=>AV key=true→v.ok H st.nx∧(I8 P op t kc x.toV y.toV).1∧(I8 P op t kc x.toV y.toV).2=v.toV):=by
 unfold kl
 split
 ·rename_i k a k' b
  refine Yl.mIf fun hb=>?_
  have hb':=W4 hb
  have key2:(HL op k a b).1→(DV.c (Q7 (T:=T) op k a b)).ok H st.nx∧(I8 P op t kc (DV.c (T:=T) (.k (.int k) a)).toV (DV.c (T:=T) (.k (.int k') b)).toV).1∧(I8 P op t kc (DV.c (T:=T) (.k (.int k) a)).toV (DV.c (T:=T) (.k (.int k') b)).toV).2=(DV.c (Q7 (T:=T) op k a b)).toV :=by
   intro hi
   obtain⟨q1,q2⟩:=d5 (T:=T) op k a b
   refine⟨by simpa only [DV.ok] using q2,?_⟩
   simp only [DV.toV,DC.toC,Bd,I8,Pk,q1]
   exact⟨⟨hb',hi⟩,trivial⟩
  obtain⟨l1,l2⟩:=hlit k' b rfl
  exact(ec l1 l2).mono fun v hv hc=>by
   obtain⟨h1,h2⟩:=hv hc
   rw [h2]
   exact key2 h1
 ·rename_i a b
  unfold jq
  split
  ·refine Yl.opt fun s hs=>Yl.ret fun hc=>?_
   have:=Mt hs hc
   simp only [DV.ok,DC.ok,DV.toV,DC.toC,Bd,I8,Pk,Is,true_and]
   exact⟨me this,by rw [mf this]⟩
  ·rename_i hne
   split
   ·rename_i v hv
    refine Yl.ret fun hc=>?_
    unfold mh at hv
    split at hv<;>first
     | (injection hv with hv;subst hv;simp only [DV.ok,DC.ok,DV.toV,DC.toC,Bd,I8,Pk,Is,and_self])
     | (cases hv;done)
   ·exact Yl.no
 ·rename_i a b
  refine Yl.mIf fun hb=>?_
  unfold jr
  split
  ·exact Yl.ret fun _=>⟨by simp only [DV.ok,DC.ok],hb,rfl⟩
  ·exact Yl.ret fun _=>⟨by simp only [DV.ok,DC.ok],hb,rfl⟩
  ·exact Yl.no
 ·refine Yl.mIf fun hb=>?_
  split
  ·rename_i v hv
   refine Yl.ret fun _=>?_
   simp only [Bool.and_eq_true]at hb
   obtain⟨a,b,c⟩:=GR (s:=kc=true∧HM P t=true) hv hb
   exact⟨by simpa only [DV.ok] using c,a,by simp only [DV.toV];exact b⟩
  ·exact Yl.no
 ·refine Yl.mIf fun hb=>?_
  split
  ·rename_i v hv
   refine Yl.ret fun _=>?_
   obtain⟨a,b,c⟩:=GR (s:=HM P t=true) hv hb
   exact⟨by simpa only [DV.ok] using c,a,by simp only [DV.toV];exact b⟩
  ·exact Yl.no
 ·refine Yl.mIf fun hb=>?_
  split
  ·rename_i v hv
   refine Yl.ret fun _=>?_
   obtain⟨a,b,c⟩:=GR (s:=Iw P t=true) hv hb
   exact⟨by simpa only [DV.ok] using c,a,by simp only [DV.toV];exact b⟩
  ·exact Yl.no
 ·refine Yl.mIf fun hb=>?_
  split
  ·rename_i v hv
   refine Yl.ret fun _=>?_
   obtain⟨a,b,c⟩:=GR (s:=Iw P t=true) hv hb
   exact⟨by simpa only [DV.ok] using c,a,by simp only [DV.toV];exact b⟩
  ·exact Yl.no
 ·refine Yl.mIf fun hb=>?_
  split
  ·rename_i v hv
   refine Yl.ret fun _=>?_
   obtain⟨a,b,c⟩:=GR (s:=Iw P t=true) hv hb
   exact⟨by simpa only [DV.ok] using c,a,by simp only [DV.toV];exact b⟩
  ·exact Yl.no
 ·refine Yl.mIf fun hb=>?_
  split
  ·rename_i v hv
   refine Yl.ret fun _=>?_
   obtain⟨a,b,c⟩:=GR (s:=Iw P t=true) hv hb
   exact⟨by simpa only [DV.ok] using c,a,by simp only [DV.toV];exact b⟩
  ·exact Yl.no
 ·rename_i cs ds
  split
  ·rename_i x y h1 h2
   refine Yl.mIf fun hb=>?_
   have e:T.beq t x y=B1 (Aq cs) (Aq ds):=by rw [T.beqok,(F2 h1).2 rfl,(F2 h2).2 rfl]
   split
   ·refine Yl.ret fun _=>⟨by simp only [DV.ok,DC.ok],?_⟩
    simp only [DV.toV,DC.toC,Bd,I8,WV,e]
    exact⟨hb,trivial⟩
   ·refine Yl.ret fun _=>⟨by simp only [DV.ok,DC.ok],?_⟩
    simp only [DV.toV,DC.toC,Bd,I8,WV,e]
    exact⟨hb,trivial⟩
   ·exact Yl.no
  ·exact Yl.no
 ·exact Yl.no
end
end Go.PL
namespace Go.PL
open Go Go.RowKit
variable {T:Be}
def nK (op:UnOp):DV T→M (DV T)
 | .c (.k (.int k) n)=>match op with
   | .neg => .ret (.c (.k (.int k) (k.wrap (0 - (show Int from n)))))
   | .xor => .ret (.c (.k (.int k) (L9 k (if k.signed then -1 else k.max) n)))
   | _=> .no
 | .c (.k .bool b)=>match op with
   | .not => .ret (.c (.k .bool !(show Bool from b)))
   | _=> .no
 | _=> .no
def ed (P:Program) (src dst:TypeId):DV T→M (DV T)
 | .c (.k (.int _) n)=>match WG P dst with
   | some k=>mIf (fY P src) (.ret (.c (.k (.int k) (k.wrap n))))
   | none=> .no
 | .c (.k .str s)=>mIf (ED P src&&ED P dst) (.ret (.c (.k .str s)))
 | _=> .no
def gN (st:Ag T) (key:List GL):Option Operand→Option (Option Int)
 | none=>some none
 | some x=>match st.arg key x with
   | some (.c (.k (.int _) n))=>some (some n)
   | _=>none
def jt (key:List GL) (s:List UInt8) (lo hi:Option Int):M (DV T):=
 .opt (gk key (bY s (lo.getD 0) (hi.getD s.length))) fun r=> .ret (.c (.k .str r))
def ju (key:List GL) (E:Nat) (l:List (T.den E)) (lo hi:Option Int):M (DV T):=
 .opt (gk key (Y4 l (lo.getD 0) (hi.getD l.length))) fun r=> .ret (.c (.k (.lst E) r))
def km (P:Program) (t:TypeId) (key:List GL) (x:DV T) (lo hi:Option Int):M (DV T):=
 match x with
 | .c (.k .str s)=>mIf (ED P t) (jt key s lo hi)
 | .c (.k (.lst E) l)=>match CZ P t with
   | some (_,n)=>mIf (Nat.beq n (T.sz E)) (ju key E l lo hi)
   | none=> .no
 | _=> .no
def eg (P:Program) (s:TypeId) (f:Nat) (x:DV T):M (DV T):=
 match dt P s f with
 | some (o,_,n)=>mIf (Nat.blt 0 n)<|match x with
   | .c (.c (.ptr id off))=> .ret (.c (.c (.ptr id (off+o))))
   | .c (.ip E l i x off)=> .ret (.c (.ip E l i x (off+o)))
   | .c (.rp id N i off)=> .ret (.c (.rp id N i (off+o)))
   | .c (.ap id base m E i off)=> .ret (.c (.ap id base m E i (off+o)))
   | _=> .no
 | none=> .no
def Y9 (P:Program) (t:TypeId) (f:Nat) (x:DV T):M (DV T):=
 match x with
 | .agg cs=>match dt P t f with
   | some (o,ag,n)=>mIf (Et ag o n cs.length) (.ret (Cp ag o n cs))
   | none=> .no
 | _=> .no
def Xr (key:List GL) (E:Nat) (l:List (T.den E)) (i:Int) (f:T.den E→DV T):M (DV T):= .opt (gk key (AN l i)) fun x=> .ret (f x)
def kn (P:Program) (t:TypeId) (key:List GL) (st:Ag T) (x y:DV T):M (DV T):=
 match y with
 | .c (.k (.int _) i)=>match x with
   | .c (.k (.lst E) l)=>match CZ P t with
     | some (_,n)=>mIf (Nat.beq n (T.sz E)) (Xr key E l i fun x=> .c (.ip E l i x 0))
     | none=> .no
   | .c (.c (.osl id))=>match CZ P t,aA st id with
     | some (_,n),some ⟨E,l⟩=>Xr key E l i fun _=> .c (.rp id n i 0)
     | _,_=> .no
   | .c (.c (.ptr id off))=>match FV P t,HW st id with
     | some (k,e,n),some cs=>match Ij e k (cs.drop off)with
       | some l=>mIf (Nat.beq n (T.sz e)&&Nat.ble off cs.length) (Xr key e l i fun _=> .c (.ap id off k e i 0))
       | none=> .no
     | _,_=> .no
   | _=> .no
 | _=> .no
def jv (key:List GL) (s:List UInt8) (i:Int):M (DV T):= .opt (gk key (VG s i)) fun r=> .ret (.c (.k (.int .u8) r))
def eh (P:Program) (t:TypeId) (key:List GL) (x y:DV T):M (DV T):=
 match y with
 | .c (.k (.int _) i)=>match x with
   | .c (.k .str s)=>mIf (ED P t) (jv key s i)
   | .agg cs=>match FV P t with
     | some (k,e,n)=>match Ir P e,Ij e k cs with
       | some (ag,_),some l=>mIf (Nat.beq n (T.sz e)&&(Nat.blt 0 n&&Nat.beq cs.length (k*n))) (Xr key e l i fun x=>Cp ag 0 n (VM e x))
       | _,_=> .no
     | none=> .no
   | _=> .no
 | _=> .no
def ko (i:Nat):DV T→M (DV T)
 | .tup vs=>mIf (Nat.blt i vs.length) (.ret (vs.getD i .u))
 | _=> .no
def ei:DV T→M (DV T)
 | .c (.c (.ptr id off))=> .ret (.c (.c (.ptr id off)))
 | .c (.c (.fn f))=> .ret (.c (.c (.fn f)))
 | .c (.ip E l i x off)=> .ret (.c (.ip E l i x off))
 | .c (.rp id N i off)=> .ret (.c (.rp id N i off))
 | .c (.ap id b m E i off)=> .ret (.c (.ap id b m E i off))
 | .c (.clo b f cs)=> .ret (.c (.clo b f cs))
 | _=> .no
def kp (P:Program) (t:TypeId) (st:Ag T) (x:DV T):M (DV T):=
 match x with
 | .c (.k .str s)=>mIf (ED P t) (.ret (.c (.k (.int .i64) ((List.length (α:=UInt8) s:Nat):Int))))
 | .c (.k (.lst E) l)=>mIf (DU P t) (.ret (.c (.k (.int .i64) ((List.length (α:=T.den E) l:Nat):Int))))
 | .c (.c (.osl id))=>match aA st id with
   | some ⟨_,l⟩=>mIf (DU P t) (.ret (.c (.k (.int .i64) ((l.length:Nat):Int))))
   | none=> .no
 | .c (.bs _ _ _ n)=>mIf (DU P t) (.ret (.c (.k (.int .i64) ((n.toNat:Nat):Int))))
 | .agg _=>match FV P t with
   | some (k,_,_)=> .ret (.c (.k (.int .i64) ((k:Nat):Int)))
   | none=> .no
 | .c (.c (.ptr _ _))=>match FV P t with
   | some (k,_,_)=> .ret (.c (.k (.int .i64) ((k:Nat):Int)))
   | none=> .no
 | _=> .no
def Gx (st:Ag T) (key:List GL):List Operand→Option (List (DV T))
 | []=>some []
 | x::xs=>match st.arg key x,Gx st key xs with
   | some v,some vs=>some (v::vs)
   | _,_=>none
abbrev nL (x:Int) (ys:List Int):Int:=ys.foldl (fun a y=>if y<a then y else a) x
abbrev nM (x:Int) (ys:List Int):Int:=ys.foldl (fun a y=>if a<y then y else a) x
def jw (k:IntKind) (x:Int) (ys:List Int):DV T:= .c (.k (.int k) (nL x ys))
def jx (k:IntKind) (x:Int) (ys:List Int):DV T:= .c (.k (.int k) (nM x ys))
def ON:List (DV T)→Option (IntKind×Int×List Int)
 | [.c (.k (.int k) x)]=>some (k,x,[])
 | .c (.k (.int k) x)::vs=>match ON vs with
   | some (_,y,ys)=>some (k,x,y::ys)
   | none=>none
 | _=>none
def Za:Value→Option (DC T)
 | .int k n=>some (.k (.int k) n)
 | .bool b=>some (.k .bool b)
 | .string s=>some (.k .str s.data.toList)
 | v=>match Qt v with
   | some c=>some (.c c)
   | none=>none
def Mv:List Value→Option (List (DC T))
 | []=>some []
 | v::vs=>match Za v,Mv vs with
   | some c,some cs=>some (c::cs)
   | _,_=>none
def Q8 (P:Program) (t:TypeId):Option (List (DC T)):=
 match P.info? t with
 | some i=>match i.zero with
   | some z=>Mv z.cells.toList
   | none=>none
 | none=>none
def DV.cells:DV T→Option (List (DC T))
 | .c x=>some [x]
 | .agg cs=>some cs
 | _=>none
def OO (place:Nat→Option (Nat×Nat)) (cells:List (DC T)):List (Nat×DV T)→Option (List (DC T))
 | []=>some cells
 | (i,v)::rest=>match place i,v.cells with
   | some (off,size),some cs=>match Nat.beq cs.length size&&Nat.ble (off+size) cells.length with
     | true=>OO place (cells.take off++(cs++cells.drop (off+size))) rest
     | false=>none
   | _,_=>none
def Hq (st:Ag T) (key:List GL):List (Nat×Operand)→Option (List (Nat×DV T))
 | []=>some []
 | (i,x)::r=>match st.arg key x,Hq st key r with
   | some v,some vs=>some ((i,v)::vs)
   | _,_=>none
def UE:List (DV T)→Option (List (DC T))
 | []=>some []
 | .c x::vs=>match UE vs with
   | some cs=>some (x::cs)
   | none=>none
 | _=>none
def Zb (P:Program) (t:TypeId) (key:List GL) (st:Ag T) (ps:List (Nat×Operand)):M (DV T):=
 match Q8 P t,Hq st key ps with
 | some z,some vs=>match OO (lS P t) z vs with
   | some cs=>mIf (dv P t) (.ret (.agg cs))
   | none=> .no
 | _,_=> .no
def IF (P:Program) (key:List GL) (st:Ag T):Op→M (DV T)
 | .move x=> .sm (st.arg key x)
 | .assign x=> .sm (st.arg key x)
 | .pick c a b=>match st.arg key c with
   | some (.c (.k .bool p))=>d4 key (Q6 st c) p (st.ev a) (st.ev b)
   | _=> .no
 | .load t x=>match st.arg key x with
   | some v=>Xo P t key st v
   | none=> .no
 | .binOp op t x y _=>match st.arg key x,st.arg key y with
   | some u,some v=>kl P op t key (Bt x||Bt y) (d6 y) (d7 y) u v
   | _,_=> .no
 | .unOp op _ x=>match st.arg key x with
   | some v=>nK op v
   | none=> .no
 | .convert src dst x=>match st.arg key x with
   | some v=>ed P src dst v
   | none=> .no
 | .slice t x lo hi none=>match st.arg key x,gN st key lo,gN st key hi with
   | some v,some l,some h=>km P t key v l h
   | _,_,_=> .no
 | .fieldAddr s x f=>match st.arg key x with
   | some v=>eg P s f v
   | none=> .no
 | .field t x f=>match st.arg key x with
   | some v=>Y9 P t f v
   | none=> .no
 | .indexAddr t x i=>match st.arg key x,st.arg key i with
   | some u,some v=>kn P t key st u v
   | _,_=> .no
 | .index t x i=>match st.arg key x,st.arg key i with
   | some u,some v=>eh P t key u v
   | _,_=> .no
 | .extract x i=>match st.arg key x with
   | some v=>ko i v
   | none=> .no
 | .nilCheck x=>match st.arg key x with
   | some v=>ei v
   | none=> .no
 | .build t ps=>Zb P t key st ps.toList
 | .makeFunc (.func f) ⟨[]⟩ caps=>match Gx st key caps.toList with
   | some vs=>match UE vs with
     | some cs=> .ret (.c (.clo false f cs))
     | none=> .no
   | none=> .no
 | .makeFunc (.func f) ⟨x::xs⟩ ⟨[]⟩=>match Gx st key (x::xs)with
   | some vs=>match UE vs with
     | some cs=> .ret (.c (.clo true f cs))
     | none=> .no
   | none=> .no
 | .call c=>match c.callee with
   | .builtin b=>match b,c.args.toList,c.argTypes.toList with
     | .len,[x],[t]=>match st.arg key x with
       | some v=>kp P t st v
       | none=> .no
     | .min,xs,_=>match Gx st key xs with
       | some vs=>match ON vs with
         | some (k,x,ys)=> .ret (jw k x ys)
         | none=> .no
       | none=> .no
     | .max,xs,_=>match Gx st key xs with
       | some vs=>match ON vs with
         | some (k,x,ys)=> .ret (jx k x ys)
         | none=> .no
       | none=> .no
     | _,_,_=> .no
   | _=> .no
 | _=> .no
end Go.PL
namespace Go.PL
open Go Go.RowKit
variable {T:Be}
section
variable {H:At T} {P:Program} {st:Ag T} {key:List GL}
theorem kq {op:UnOp} {x:DV T} {g:Prop} {nx:Nat}:Yl (nK op x) (fun v=>g→v.ok H nx∧(fU op x.toV).1∧(fU op x.toV).2=v.toV):=by
 unfold nK
 split
 ·split
  ·exact Yl.ret fun _=>⟨by simp only [DV.ok,DC.ok],trivial,rfl⟩
  ·exact Yl.ret fun _=>⟨by simp only [DV.ok,DC.ok],trivial,rfl⟩
  ·exact Yl.no
 ·split
  ·exact Yl.ret fun _=>⟨by simp only [DV.ok,DC.ok],trivial,rfl⟩
  ·exact Yl.no
 ·exact Yl.no
theorem ej {s d:TypeId} {x:DV T} {g:Prop} {nx:Nat} {z:St}:Yl (ed P s d x) (fun v=>g→v.ok H nx∧(HN P s d z x.toV).1∧(HN P s d z x.toV).2=v.toV):=by
 unfold ed
 split
 ·split
  ·rename_i k hk
   refine Yl.mIf fun hb=>Yl.ret fun _=>⟨by simp only [DV.ok,DC.ok],?_⟩
   simp only [DV.toV,DC.toC,Bd,HN,hk]
   exact⟨hb,trivial⟩
  ·exact Yl.no
 ·refine Yl.mIf fun hb=>Yl.ret fun _=>⟨by simp only [DV.ok,DC.ok],?_⟩
  simp only [Bool.and_eq_true]at hb
  exact⟨hb,rfl⟩
 ·exact Yl.no
theorem KE (hw:AB H st) (hk:Ei H st.nx key) {x:Option Operand} {o:Option Int} (h:gN st key x=some o) (hc:AV key=true):
 (Cy st.toSt (AV key) x).1∧((o=none∧(Cy st.toSt (AV key) x).2=none)∨ ∃ k n,o=some n∧(Cy st.toSt (AV key) x).2=some (.c (.int k n))):=by
 unfold gN at h
 split at h
 ·injection h with h;subst h;exact⟨trivial, .inl ⟨rfl,rfl⟩⟩
 ·split at h
  ·rename_i y k n hy
   injection h with h;subst h
   obtain⟨_,a,b⟩:=Ag.arg_spec hw hk hy hc
   exact⟨a, .inr ⟨k,n,rfl,by simp only [Cy,b];rfl⟩⟩
  ·cases h
theorem aE {len:Nat} {lo hi:Option Int} {a b:Option V} (ha:(lo=none∧a=none)∨ ∃ k n,lo=some n∧a=some (.c (.int k n))) (hb:(hi=none∧b=none)∨ ∃ k n,hi=some n∧b=some (.c (.int k n))):
 S6 len a b=some (lo.getD 0,hi.getD len):=by
 rcases ha with ⟨rfl,rfl⟩ | ⟨k,n,rfl,rfl⟩<;>rcases hb with ⟨rfl,rfl⟩ | ⟨k',n',rfl,rfl⟩<;>rfl
theorem ek {s:List UInt8} {lo hi:Option Int}:Yl (jt (T:=T) key s lo hi) (fun v=>AV key=true→ ∃ r,bY s (lo.getD 0) (hi.getD s.length)=some r∧v= .c (.k .str r)):=
 Yl.opt fun r hr=>Yl.ret fun hc=>⟨r,Mt hr hc,rfl⟩
theorem em {E:Nat} {l:List (T.den E)} {lo hi:Option Int}:Yl (ju key E l lo hi) (fun v=>AV key=true→ ∃ r,Y4 l (lo.getD 0) (hi.getD l.length)=some r∧v= .c (.k (.lst E) r)):=
 Yl.opt fun r hr=>Yl.ret fun hc=>⟨r,Mt hr hc,rfl⟩
theorem gO {t:TypeId} {x:DV T} {lo hi:Option Int} {a b:Option V} (ha:AV key=true→(lo=none∧a=none)∨ ∃ k n,lo=some n∧a=some (.c (.int k n))) (hb:AV key=true→(hi=none∧b=none)∨ ∃ k n,hi=some n∧b=some (.c (.int k n))) {nx:Nat}:
 Yl (km P t key x lo hi) (fun v=>AV key=true→v.ok H nx∧(Fq P t x.toV a b).1∧(Fq P t x.toV a b).2=v.toV):=by
 unfold km
 split
 ·rename_i s
  refine Yl.mIf fun hs=>ek.mono fun v hv hc=>?_
  obtain⟨r,h1,rfl⟩:=hv hc
  have hB:=aE (len:=List.length (α:=UInt8) s) (ha hc) (hb hc)
  refine⟨by simp only [DV.ok,DC.ok],?_⟩
  simp only [DV.toV,DC.toC,Bd,Fq]
  erw [hB]
  exact⟨⟨hs,j9 h1⟩,by rw [kf h1]⟩
 ·rename_i E l
  split
  ·rename_i e n hsel
   refine Yl.mIf fun hs=>em.mono fun v hv hc=>?_
   obtain⟨r,h1,rfl⟩:=hv hc
   have hn:n=T.sz E:=Nat.eq_of_beq_eq_true hs
   subst hn
   have hB:=aE (len:=List.length (α:=T.den E) l) (ha hc) (hb hc)
   refine⟨by simp only [DV.ok,DC.ok],?_⟩
   simp only [DV.toV,DC.toC,Bd,Fq,hsel]
   erw [hB]
   obtain⟨q1,q2,q3⟩:=dS h1
   refine⟨⟨q1,q2,q3,flat_len' (fun y=>AD E y) l⟩,?_⟩
   exact nF h1 (fun y=>AD E y)
  ·exact Yl.no
 ·exact Yl.no
theorem ep {s:TypeId} {f:Nat} {x:DV T} {g:Prop} {nx:Nat} (hx:g→x.ok H nx):Yl (eg P s f x) (fun v=>g→v.ok H nx∧(BJ P s f x.toV).1∧(BJ P s f x.toV).2=v.toV):=by
 unfold eg
 split
 ·rename_i o ag n hf
  refine Yl.mIf fun hb=>?_
  have hb':0<n:=by simpa using hb
  split
  ·refine Yl.ret fun _=>⟨by simp only [DV.ok,DC.ok],?_⟩
   simp only [DV.toV,DC.toC,BJ,hf];exact⟨hb',trivial⟩
  ·refine Yl.ret fun hg=>⟨by simpa only [DV.ok,DC.ok] using hx hg,?_⟩
   simp only [DV.toV,DC.toC,BJ,hf,Nat.add_assoc];exact⟨hb',trivial⟩
  ·refine Yl.ret fun hg=>⟨by simp only [DV.ok,DC.ok],?_⟩
   simp only [DV.toV,DC.toC,BJ,hf,Nat.add_assoc];exact⟨hb',trivial⟩
  ·refine Yl.ret fun hg=>⟨by simp only [DV.ok,DC.ok],?_⟩
   simp only [DV.toV,DC.toC,BJ,hf,Nat.add_assoc];exact⟨hb',trivial⟩
  ·exact Yl.no
 ·exact Yl.no
theorem cf {t:TypeId} {f:Nat} {x:DV T} {g:Prop} {nx:Nat} (hx:g→x.ok H nx):Yl (Y9 P t f x) (fun v=>g→v.ok H nx∧(GW P t f x.toV).1∧(GW P t f x.toV).2=v.toV):=by
 unfold Y9
 split
 ·split
  ·rename_i cs o ag n hf
   refine Yl.mIf fun hb=>Yl.ret fun hg=>⟨F3 _ _ _ (by simpa only [DV.ok] using hx hg),?_⟩
   obtain⟨h1,h2⟩:=Ci hb
   simp only [DV.toV,GW,hf,Fv,Ax]
   exact⟨⟨h1,h2⟩,trivial⟩
  ·exact Yl.no
 ·exact Yl.no
theorem Mw {E:Nat} {l:List (T.den E)} {i:Int} {f:T.den E→DV T}:Yl (Xr key E l i f) (fun v=>AV key=true→ ∃ x,AN l i=some x∧v=f x):=
 Yl.opt fun r hr=>Yl.ret fun hc=>⟨r,Mt hr hc,rfl⟩
theorem gP {t:TypeId} {x y:DV T} {nx:Nat}:Yl (kn P t key st x y) (fun v=>AV key=true→v.ok H nx∧(BY P t st.toSt x.toV y.toV).1∧(BY P t st.toSt x.toV y.toV).2=v.toV):=by
 unfold kn
 split
 ·rename_i k i
  split
  ·rename_i E l
   split
   ·rename_i e n hs
    refine Yl.mIf fun hn=>Mw.mono fun v hv hc=>?_
    have hn:n=T.sz E:=Nat.eq_of_beq_eq_true hn
    subst hn
    obtain⟨x,h1,rfl⟩:=hv hc
    refine⟨by simpa only [DV.ok,DC.ok] using h1,?_⟩
    simp only [DV.toV,DC.toC,Bd,BY,hs,Nat.add_zero]
    exact⟨K3 h1,trivial⟩
   ·exact Yl.no
  ·rename_i id
   split
   ·rename_i e n E l hs hb
    refine Mw.mono fun v hv hc=>?_
    obtain⟨x,h1,rfl⟩:=hv hc
    refine⟨by simp only [DV.ok,DC.ok],?_⟩
    obtain⟨ee,e1,e2⟩:=Q3 hb
    simp only [DV.toV,DC.toC,Bd,BY,hs,e1,e2,Nat.add_zero]
    exact⟨K3 h1,trivial⟩
   ·exact Yl.no
  ·rename_i id off
   split
   ·rename_i m e n cs hs hb
    split
    ·rename_i l hl
     refine Yl.mIf fun hn=>Mw.mono fun v hv hc=>?_
     simp only [Bool.and_eq_true,Nat.beq_eq,Nat.ble_eq]at hn
     obtain⟨hn,_⟩:=hn
     subst hn
     obtain⟨x,h1,rfl⟩:=hv hc
     refine⟨by simp only [DV.ok,DC.ok],?_⟩
     simp only [DV.toV,DC.toC,Bd,BY,hs,Nat.add_zero]
     have:=K3 h1
     rw [(Dt hl).1]at this
     exact⟨this,trivial⟩
    ·exact Yl.no
   ·exact Yl.no
  ·exact Yl.no
 ·exact Yl.no
theorem eu {s:List UInt8} {i:Int}:Yl (jv (T:=T) key s i) (fun v=>AV key=true→ ∃ r,VG s i=some r∧v= .c (.k (.int .u8) r)):=
 Yl.opt fun r hr=>Yl.ret fun hc=>⟨r,Mt hr hc,rfl⟩
theorem ew {t:TypeId} {x y:DV T} {nx:Nat}:Yl (eh P t key x y) (fun v=>AV key=true→v.ok H nx∧(Gr P t x.toV y.toV).1∧(Gr P t x.toV y.toV).2=v.toV):=by
 unfold eh
 split
 ·rename_i k i
  split
  ·rename_i s
   refine Yl.mIf fun hs=>eu.mono fun v hv hc=>?_
   obtain⟨r,h1,rfl⟩:=hv hc
   refine⟨by simp only [DV.ok,DC.ok],?_⟩
   simp only [DV.toV,DC.toC,Bd,Gr]
   exact⟨⟨hs,VH h1⟩,by rw [VI h1]⟩
  ·rename_i cs
   split
   ·rename_i m e n hs
    split
    ·rename_i ag n' l ht hl
     refine Yl.mIf fun hn=>Mw.mono fun v hv hc=>?_
     simp only [Bool.and_eq_true,Nat.beq_eq,Nat.blt_eq]at hn
     obtain⟨hn,h0,hlen⟩:=hn
     subst hn
     obtain⟨x,h1,rfl⟩:=hv hc
     obtain⟨hl1,r,hl2⟩:=Dt hl
     have:=dQ (cs:=Aq cs) (pre:=[]) (post:=r) (base:=0) (e:=T.enc e) (N:=T.sz e) (o:=0) (n:=T.sz e) (ag:=ag) (v:=(Cp (T:=T) ag 0 (T.sz e) (VM e x)).toV) (off:=i.toNat*T.sz e)
      (by rw [hl2];rfl) rfl h1 (fun y=>AD e y) (by omega) (by omega) (.inr h0) (by rw [Fv,E3])
     refine⟨F3 _ _ _ (Jc e x),?_⟩
     have hb:=K3 h1
     rw [hl1]at hb
     simp only [DV.toV,DC.toC,Bd,Gr,hs,ht]
     exact⟨⟨hb.1,hb.2,this.1,h0⟩,this.2⟩
    ·exact Yl.no
   ·exact Yl.no
  ·exact Yl.no
 ·exact Yl.no
theorem UF: ∀ (vs:List (DV T)) (i:Nat),(AO vs).getD i .undef =(vs.getD i .u).toV
 | [],_=>by simp [AO,DV.toV]
 | v::vs,0=>by simp [AO]
 | v::vs,i+1=>by simpa [AO] using UF vs i
theorem F4 (vs:List (DV T)):(AO vs).length =vs.length:=by simp [JZ]
theorem gQ {i:Nat} {x:DV T} {g:Prop} {nx:Nat} (hx:g→x.ok H nx):Yl (ko i x) (fun v=>g→v.ok H nx∧(YF i x.toV).1∧(YF i x.toV).2=v.toV):=by
 unfold ko
 split
 ·rename_i vs
  refine Yl.mIf fun hb=>Yl.ret fun hg=>⟨?_,?_⟩
  ·have:=hx hg
   simp only [DV.ok]at this
   rw [List.getD_eq_getElem?_getD]
   cases h:vs[i]? with
   | none=>simp [DV.ok]
   | some v=>exact Hm.1 this v (List.mem_of_getElem? h)
  ·simp only [DV.toV,YF,UF,F4]
   exact⟨by simpa using hb,trivial⟩
 ·exact Yl.no
theorem ex {x:DV T} {g:Prop} {nx:Nat} (hx:g→x.ok H nx):Yl (ei x) (fun v=>g→v.ok H nx∧(Na x.toV).1∧(Na x.toV).2=v.toV):=by
 unfold ei
 split
 ·exact Yl.ret fun hg=>⟨hx hg,trivial,rfl⟩
 ·exact Yl.ret fun hg=>⟨hx hg,trivial,rfl⟩
 ·exact Yl.ret fun hg=>⟨hx hg,by simp only [DV.toV,DC.toC,Na],by simp only [DV.toV,DC.toC,Na]⟩
 ·exact Yl.ret fun hg=>⟨hx hg,by simp only [DV.toV,DC.toC,Na],by simp only [DV.toV,DC.toC,Na]⟩
 ·exact Yl.ret fun hg=>⟨hx hg,by simp only [DV.toV,DC.toC,Na],by simp only [DV.toV,DC.toC,Na]⟩
 ·rename_i b f cs
  refine Yl.ret fun hg=>⟨hx hg,?_⟩
  cases b<;>simp only [DV.toV,DC.toC,Na]<;>exact⟨trivial,trivial⟩
 ·exact Yl.no
theorem gR {t:TypeId} {x:DV T} {nx:Nat} {g:Prop}:Yl (kp P t st x) (fun v=>g→v.ok H nx∧(Lj P t st.toSt x.toV).1∧(Lj P t st.toSt x.toV).2=v.toV):=by
 unfold kp
 split
 ·exact Yl.mIf fun hb=>Yl.ret fun _=>⟨by simp only [DV.ok,DC.ok],hb,rfl⟩
 ·exact Yl.mIf fun hb=>Yl.ret fun _=>⟨by simp only [DV.ok,DC.ok],hb,rfl⟩
 ·split
  ·rename_i id E l hr
   refine Yl.mIf fun hb=>Yl.ret fun _=>⟨by simp only [DV.ok,DC.ok],?_⟩
   obtain⟨ee,e1,e2⟩:=Q3 hr
   simp only [DV.toV,DC.toC,Bd,Lj,e1,e2]
   exact⟨hb,trivial⟩
  ·exact Yl.no
 ·exact Yl.mIf fun hb=>Yl.ret fun _=>⟨by simp only [DV.ok,DC.ok],hb,rfl⟩
 ·split
  ·rename_i k e n ha
   refine Yl.ret fun _=>⟨by simp only [DV.ok,DC.ok],?_⟩
   simp only [DV.toV,DC.toC,Bd,Lj,ha]
   exact⟨trivial,trivial⟩
  ·exact Yl.no
 ·split
  ·rename_i k e n ha
   refine Yl.ret fun _=>⟨by simp only [DV.ok,DC.ok],?_⟩
   simp only [DV.toV,DC.toC,Bd,Lj,ha]
   exact⟨trivial,trivial⟩
  ·exact Yl.no
 ·exact Yl.no
theorem CK (hw:AB H st) (hk:Ei H st.nx key) (hc:AV key=true): ∀ {xs:List Operand} {vs:List (DV T)},Gx st key xs=some vs→
 Cn H st.nx vs∧(st.toSt.args (AV key) xs).1∧(st.toSt.args (AV key) xs).2=AO vs
 | [],vs,h=>by simp [Gx]at h;subst h;simp [Cn,St.args,AO]
 | x::xs,vs,h=>by
   unfold Gx at h
   split at h
   ·rename_i v vs' h1 h2
    injection h with h;subst h
    obtain⟨a,b,c⟩:=Ag.arg_spec hw hk h1 hc
    obtain⟨a',b',c'⟩:=CK hw hk hc h2
    simp only [Cn,St.args,AO,c,c']
    exact⟨⟨a,a'⟩,⟨b,b'⟩,trivial⟩
   ·cases h
theorem Ly: ∀ {vs:List (DV T)} {r:IntKind×Int×List Int},ON vs=some r→Gs (AO vs)=some r
 | [],_,h=>by simp [ON]at h
 | [v],r,h=>by
   unfold ON at h
   split at h
   ·rename_i k x he
    injection he with he;subst he
    injection h with h;subst h
    rfl
   ·rename_i k x vs' hne he
    injection he with h1 h2
    subst h2
    simp [ON]at h
   ·cases h
 | v::v'::vs,r,h=>by
   unfold ON at h
   split at h
   ·rename_i he;cases he
   ·rename_i k x vs' _ he
    injection he with h1 h2
    subst h1 h2
    split at h
    ·rename_i k' y ys h3
     injection h with h;subst h
     have:=Ly h3
     have h4: ∀ z:Int,AO (DV.c (T:=T) (.k (.int k) z)::v'::vs)= .c (.int k z)::v'.toV::AO vs:=fun z=>by simp only [AO,DV.toV,DC.toC,Bd]
     have h5:AO (v'::vs)=v'.toV::AO vs:=by simp only [AO]
     rw [h5]at this
     refine(congrArg Gs (h4 x)).trans ?_
     simp only [Gs,this]
    ·cases h
   ·cases h
theorem Xs {v:Value} {c:DC T} (h:Za v=some c):Qt v=some c.toC∧c.ok:=by
 unfold Za at h
 split at h
 ·injection h with h;subst h;exact⟨rfl,by simp only [DC.ok]⟩
 ·injection h with h;subst h;exact⟨rfl,by simp only [DC.ok]⟩
 ·injection h with h;subst h;exact⟨rfl,by simp only [DC.ok]⟩
 ·split at h
  ·rename_i c' hc
   injection h with h;subst h
   exact⟨by rw [hc];simp only [DC.toC],by simp only [DC.ok]⟩
  ·cases h
theorem Mx: ∀ {vs:List Value} {cs:List (DC T)},Mv vs=some cs→GC vs=some (Aq cs)∧BU cs
 | [],cs,h=>by simp [Mv]at h;subst h;simp [GC,Aq,BU]
 | v::vs,cs,h=>by
   unfold Mv at h
   split at h
   ·rename_i c cs' h1 h2
    injection h with h;subst h
    obtain⟨a,b⟩:=Xs h1
    obtain⟨a',b'⟩:=Mx h2
    simp [GC,a,a',Aq,BU,b,b']
   ·cases h
theorem J2 {t:TypeId} {cs:List (DC T)} (h:Q8 P t=some cs):Qu P t=some (Aq cs)∧BU cs:=by
 unfold Q8 at h
 unfold Qu
 split at h
 ·rename_i i hi
  split at h
  ·rename_i z hz
   simp only [hi,hz]
   exact Mx h
  ·cases h
 ·cases h
theorem DV.cells_spec {v:DV T} {cs:List (DC T)} (h:v.cells=some cs):v.toV.cells=some (Aq cs)∧(∀ {H:At T} {nx:Nat},v.ok H nx→BU cs):=by
 unfold DV.cells at h
 split at h
 ·injection h with h;subst h;exact⟨by simp [DV.toV,V.cells,Aq],fun hv=>by simpa [BU,DV.ok] using hv⟩
 ·injection h with h;subst h;exact⟨by simp [DV.toV,V.cells],fun hv=>by simpa only [DV.ok] using hv⟩
 ·cases h
def ey (l:List (Nat×DV T)):List (Nat×V):=l.map fun x=>(x.1,x.2.toV)
theorem F5 (hw:AB H st) (hk:Ei H st.nx key) (hc:AV key=true): ∀ {ps:List (Nat×Operand)} {vs:List (Nat×DV T)},Hq st key ps=some vs→
 (∀ x∈vs,x.2.ok H st.nx)∧(st.toSt.parts (AV key) ps).1∧(st.toSt.parts (AV key) ps).2=ey vs
 | [],vs,h=>by simp [Hq]at h;subst h;simp [St.parts,ey]
 | (i,x)::r,vs,h=>by
   unfold Hq at h
   split at h
   ·rename_i v vs' h1 h2
    injection h with h;subst h
    obtain⟨a,b,c⟩:=Ag.arg_spec hw hk h1 hc
    obtain⟨a',b',c'⟩:=F5 hw hk hc h2
    simp only [St.parts,ey,c,c',List.map_cons]
    refine⟨fun y hy=>?_,⟨b,b'⟩,trivial⟩
    rcases List.mem_cons.1 hy with rfl | hy
    ·exact a
    ·exact a' y hy
   ·cases h
theorem Hr {place:Nat→Option (Nat×Nat)}: ∀ {vs:List (Nat×DV T)} {cells cs:List (DC T)},OO place cells vs=some cs→
 G6 place (Aq cells) (ey vs)=some (Aq cs)∧ ∀ {H:At T} {nx:Nat},BU cells→(∀ x∈vs,x.2.ok H nx)→BU cs
 | [],cells,cs,h=>by simp [OO]at h;subst h;exact⟨rfl,fun hc _=>hc⟩
 | (i,v)::rest,cells,cs,h=>by
   unfold OO at h
   split at h
   ·rename_i off size ds h1 h2
    split at h
    ·rename_i hb
     simp only [Bool.and_eq_true,Nat.beq_eq,Nat.ble_eq]at hb
     obtain⟨a,b⟩:=DV.cells_spec h2
     obtain⟨a',b'⟩:=Hr h
     refine⟨?_,fun hc hv=>b' (CF (KB hc _) (CF (b (hv (i,v) (by simp))) (KC hc _))) (fun x hx=>hv x (by simp [hx]))⟩
     simp only [ey,List.map_cons,G6,h1,a]
     rw [if_pos (by rw [Ax,Ax];exact hb)]
     rw [←a',BQ,BQ,GQ,EM,List.append_assoc]
     rfl
    ·cases h
   ·cases h
theorem Lz: ∀ {vs:List (DV T)} {cs:List (DC T)},UE vs=some cs→Vw (AO vs)=some (Aq cs)∧ ∀ {H:At T} {nx:Nat},Cn H nx vs→BU cs
 | [],cs,h=>by simp [UE]at h;subst h;exact⟨by simp [AO,Vw,Aq],fun _=>by simp [BU]⟩
 | v::vs,cs,h=>by
   unfold UE at h
   split at h
   ·cases ‹_=([]:List (DV T))›
   ·rename_i x vs' he
    injection he with h1 h2;subst h1 h2
    split at h
    ·rename_i cs' hcs
     injection h with h;subst h
     obtain⟨a,b⟩:=Lz hcs
     refine⟨by simp [AO,DV.toV,Vw,a,Aq],fun hv=>?_⟩
     simp only [Cn,DV.ok]at hv
     simp only [BU]
     exact⟨hv.1,b hv.2⟩
    ·cases h
   ·cases h
theorem cg (hw:AB H st) (hk:Ei H st.nx key) {t:TypeId} {ps:List (Nat×Operand)}:
 Yl (Zb P t key st ps) (fun v=>AV key=true→v.ok H st.nx∧(JT P st.toSt (AV key) t ps).1∧(JT P st.toSt (AV key) t ps).2=v.toV):=by
 unfold Zb
 split
 ·rename_i z vs hz hp
  split
  ·rename_i cs hf
   refine Yl.mIf fun ho=>Yl.ret fun hc=>?_
   obtain⟨a,b⟩:=J2 hz
   obtain⟨p1,p2,p3⟩:=F5 hw hk hc hp
   obtain⟨q1,q2⟩:=Hr hf
   refine⟨by simp only [DV.ok];exact q2 b p1,?_⟩
   simp only [JT,a,p3,q1,DV.toV]
   exact⟨⟨p2,ho⟩,trivial⟩
  ·exact Yl.no
 ·exact Yl.no
theorem ez {y:Operand} {v:DV T} (h:st.arg key y=some v):js (d6 y) (d7 y) v:=by
 intro k b hv
 subst hv
 have hc: ∀ (k':IntKind) (n:Int),y= .const (.int k' n)→b=n:=by
  intro k' n e
  subst e
  unfold Ag.arg at h
  simp only [Ag.ev,Np,OH,Option.some.injEq,DV.c.injEq]at h
  injection h with h1 h2
  injection h1 with h1
  subst h1
  exact h2.symm
 constructor
 ·intro h1
  unfold d6 at h1
  split at h1
  ·rename_i k' n
   rw [hc k' n rfl]
   simpa using h1
  ·cases h1
 ·intro h1
  unfold d7 at h1
  split at h1
  ·rename_i k' n
   rw [hc k' n rfl]
   simpa using h1
  ·cases h1
theorem IG (hw:AB H st) (hk:Ei H st.nx key) (op:Op):Yl (IF P key st op) (Rd H P st key op):=by
 have A: ∀ {x:Operand} {v:DV T},st.arg key x=some v→AV key=true→v.ok H st.nx∧(st.toSt.arg (AV key) x).1∧(st.toSt.arg (AV key) x).2=v.toV:=fun h hc=>Ag.arg_spec hw hk h hc
 unfold IF
 split
 ·exact Yl.sm fun v hv hc=>A hv hc
 ·exact Yl.sm fun v hv hc=>A hv hc
 ·rename_i c a b
  split
  ·rename_i p hp
   refine(d9 hw hk hp).mono fun v hv hc=>?_
   obtain⟨q0,q1,q2⟩:=hv hc
   obtain⟨_,k1,k2⟩:=A hp hc
   simp only [DV.toV,DC.toC,Bd]at k2
   refine⟨q0,?_⟩
   simp only [De,rd,bnd,k2]
   exact⟨⟨k1,q1⟩,q2⟩
  ·exact Yl.no
 ·rename_i t x
  split
  ·rename_i v hx
   refine(Q5 hw (fun hc=>(A hx hc).1)).mono fun r hr hc=>?_
   obtain⟨q0,q1,q2⟩:=hr hc
   obtain⟨_,k1,k2⟩:=A hx hc
   refine⟨q0,?_⟩
   simp only [De,rd,bnd,k2]
   exact⟨⟨k1,q1⟩,q2⟩
  ·exact Yl.no
 ·rename_i op t x y ty
  split
  ·rename_i u v hx hy
   refine(gM (H:=H) (st:=st) (ez hy)).mono fun r hr hc=>?_
   obtain⟨q0,q1,q2⟩:=hr hc
   obtain⟨_,k1,k2⟩:=A hx hc
   obtain⟨_,k3,k4⟩:=A hy hc
   refine⟨q0,?_⟩
   have e:De P st.toSt (AV key) (.binOp op t x y ty)=((st.toSt.arg (AV key) x).1∧(st.toSt.arg (AV key) y).1∧(I8 P op t (Bt x||Bt y) (st.toSt.arg (AV key) x).2 (st.toSt.arg (AV key) y).2).1,(I8 P op t (Bt x||Bt y) (st.toSt.arg (AV key) x).2 (st.toSt.arg (AV key) y).2).2):=by
    simp only [De]
    unfold I8
    split
    ·rename_i cs ds e1 e2;simp only [e1,e2]
    ·rename_i hne
     split
     ·rename_i cs ds e1 e2;exact(hne cs ds e1 e2).elim
     ·rfl
   rw [e,k2,k4]
   exact⟨⟨k1,k3,q1⟩,q2⟩
  ·exact Yl.no
 ·rename_i op t x
  split
  ·rename_i v hx
   refine(kq (H:=H) (g:=AV key=true) (nx:=st.nx)).mono fun r hr hc=>?_
   obtain⟨q0,q1,q2⟩:=hr hc
   obtain⟨_,k1,k2⟩:=A hx hc
   refine⟨q0,?_⟩
   simp only [De,rd,bnd,k2]
   exact⟨⟨k1,q1⟩,q2⟩
  ·exact Yl.no
 ·rename_i s d x
  split
  ·rename_i v hx
   refine(ej (H:=H) (g:=AV key=true) (nx:=st.nx) (z:=st.toSt)).mono fun r hr hc=>?_
   obtain⟨q0,q1,q2⟩:=hr hc
   obtain⟨_,k1,k2⟩:=A hx hc
   refine⟨q0,?_⟩
   simp only [De,rd,bnd,k2]
   exact⟨⟨k1,q1⟩,q2⟩
  ·exact Yl.no
 ·rename_i t x lo hi
  split
  ·rename_i v l h hx hl hh
   refine(gO (H:=H) (nx:=st.nx) (a:=(Cy st.toSt (AV key) lo).2) (b:=(Cy st.toSt (AV key) hi).2) (fun hc=>(KE hw hk hl hc).2) (fun hc=>(KE hw hk hh hc).2)).mono fun r hr hc=>?_
   obtain⟨q0,q1,q2⟩:=hr hc
   obtain⟨_,k1,k2⟩:=A hx hc
   refine⟨q0,?_⟩
   simp only [De,rd,bnd,k2]
   exact⟨⟨k1,(KE hw hk hl hc).1,(KE hw hk hh hc).1,q1⟩,q2⟩
  ·exact Yl.no
 ·rename_i s x f
  split
  ·rename_i v hx
   refine(ep (H:=H) (g:=AV key=true) (nx:=st.nx) (fun hc=>(A hx hc).1)).mono fun r hr hc=>?_
   obtain⟨q0,q1,q2⟩:=hr hc
   obtain⟨_,k1,k2⟩:=A hx hc
   refine⟨q0,?_⟩
   simp only [De,rd,bnd,k2]
   exact⟨⟨k1,q1⟩,q2⟩
  ·exact Yl.no
 ·rename_i t x f
  split
  ·rename_i v hx
   refine(cf (H:=H) (g:=AV key=true) (nx:=st.nx) (fun hc=>(A hx hc).1)).mono fun r hr hc=>?_
   obtain⟨q0,q1,q2⟩:=hr hc
   obtain⟨_,k1,k2⟩:=A hx hc
   refine⟨q0,?_⟩
   simp only [De,rd,bnd,k2]
   exact⟨⟨k1,q1⟩,q2⟩
  ·exact Yl.no
 ·rename_i t x y
  split
  ·rename_i u v hx hy
   refine(gP (H:=H) (nx:=st.nx)).mono fun r hr hc=>?_
   obtain⟨q0,q1,q2⟩:=hr hc
   obtain⟨_,k1,k2⟩:=A hx hc
   obtain⟨_,k3,k4⟩:=A hy hc
   refine⟨q0,?_⟩
   simp only [De,rd,bnd,k2,k4]
   exact⟨⟨k1,k3,q1⟩,q2⟩
  ·exact Yl.no
 ·rename_i t x y
  split
  ·rename_i u v hx hy
   refine(ew (H:=H) (nx:=st.nx)).mono fun r hr hc=>?_
   obtain⟨q0,q1,q2⟩:=hr hc
   obtain⟨_,k1,k2⟩:=A hx hc
   obtain⟨_,k3,k4⟩:=A hy hc
   refine⟨q0,?_⟩
   simp only [De,rd,bnd,k2,k4]
   exact⟨⟨k1,k3,q1⟩,q2⟩
  ·exact Yl.no
 ·rename_i x i
  split
  ·rename_i v hx
   refine(gQ (H:=H) (g:=AV key=true) (nx:=st.nx) (fun hc=>(A hx hc).1)).mono fun r hr hc=>?_
   obtain⟨q0,q1,q2⟩:=hr hc
   obtain⟨_,k1,k2⟩:=A hx hc
   refine⟨q0,?_⟩
   simp only [De,rd,bnd,k2]
   exact⟨⟨k1,q1⟩,q2⟩
  ·exact Yl.no
 ·rename_i x
  split
  ·rename_i v hx
   refine(ex (H:=H) (g:=AV key=true) (nx:=st.nx) (fun hc=>(A hx hc).1)).mono fun r hr hc=>?_
   obtain⟨q0,q1,q2⟩:=hr hc
   obtain⟨_,k1,k2⟩:=A hx hc
   refine⟨q0,?_⟩
   simp only [De,rd,bnd,k2]
   exact⟨⟨k1,q1⟩,q2⟩
  ·exact Yl.no
 ·exact cg hw hk
 ·rename_i f caps
  split
  ·rename_i vs hvs
   split
   ·rename_i cs hcs
    refine Yl.ret fun hc=>?_
    obtain⟨a,b,c⟩:=CK hw hk hc hvs
    obtain⟨d,e⟩:=Lz hcs
    refine⟨by simp only [DV.ok,DC.ok];exact e a,?_⟩
    simp only [De,c,d,DV.toV,DC.toC]
    exact⟨b,trivial⟩
   ·exact Yl.no
  ·exact Yl.no
 ·rename_i f x xs
  split
  ·rename_i vs hvs
   split
   ·rename_i cs hcs
    refine Yl.ret fun hc=>?_
    obtain⟨a,b,c⟩:=CK hw hk hc hvs
    obtain⟨d,e⟩:=Lz hcs
    refine⟨by simp only [DV.ok,DC.ok];exact e a,?_⟩
    simp only [De,c,d,DV.toV,DC.toC]
    exact⟨b,trivial⟩
   ·exact Yl.no
  ·exact Yl.no
 ·rename_i c
  split
  ·rename_i b hb
   split
   ·rename_i x t h1 h2
    split
    ·rename_i v hx
     refine(gR (H:=H) (g:=AV key=true) (nx:=st.nx)).mono fun r hr hc=>?_
     obtain⟨q0,q1,q2⟩:=hr hc
     obtain⟨_,k1,k2⟩:=A hx hc
     refine⟨q0,?_⟩
     simp only [De,rd,hb,h1,h2,Lm,bnd,k2]
     exact⟨⟨k1,q1⟩,q2⟩
    ·exact Yl.no
   ·split
    ·rename_i vs hvs
     split
     ·rename_i k x ys hi
      refine Yl.ret fun hc=>?_
      obtain⟨a,b',c'⟩:=CK hw hk hc hvs
      refine⟨by simp only [jw,DV.ok,DC.ok],?_⟩
      simp only [De,rd,hb,Lm,c',YB,Ly hi]
      exact⟨⟨b',trivial⟩,rfl⟩
     ·exact Yl.no
    ·exact Yl.no
   ·split
    ·rename_i vs hvs
     split
     ·rename_i k x ys hi
      refine Yl.ret fun hc=>?_
      obtain⟨a,b',c'⟩:=CK hw hk hc hvs
      refine⟨by simp only [jx,DV.ok,DC.ok],?_⟩
      simp only [De,rd,hb,Lm,c',YC,Ly hi]
      exact⟨⟨b',trivial⟩,rfl⟩
     ·exact Yl.no
    ·exact Yl.no
   ·exact Yl.no
  ·exact Yl.no
 ·exact Yl.no
end
end Go.PL
namespace Go.PL
open Go Go.RowKit
variable {T:Be}
def Ag.put (st:Ag T) (d:Option Nat) (v:DV T):Ag T:=match d with
 | some d=>{st with tm:=(d,st.nx,v)::st.tm,nx:=st.nx+1}
 | none=>st
theorem Xt (m d t:Nat) (v:DV T) (tm:Tm T):Au m ((d,t,v)::tm)=(Au m tm).set d v.toV:=by
 apply List.ext_getElem?
 intro i
 unfold Au
 rw [List.getElem?_set]
 simp only [List.getElem?_map,List.length_map,List.length_range]
 by_cases hi:i<m
 ·rw [List.getElem?_range hi]
  simp only [Option.map_some,lk]
  by_cases hd:d=i
  ·subst hd
   simp [hi]
  ·have:Nat.beq d i=false:=by
    cases h:Nat.beq d i
    ·rfl
    ·exact absurd (Nat.eq_of_beq_eq_true h) hd
   simp [hd,this]
 ·rw [List.getElem?_eq_none (by simpa using hi)]
  by_cases hd:d=i
  ·subst hd;simp [hi]
  ·simp [hd]
theorem Ag.put_toSt (st:Ag T) (d:Option Nat) (v:DV T):(st.put d v).toSt =st.toSt.put d v.toV:=by
 cases d with
 | none=>rfl
 | some d=>simp only [Ag.put,Ag.toSt,St.put,Xt]
def At.setV (H:At T) (t:Nat) (v:DV T):At T:=⟨fun i=>if i=t then v else H.v i,H.e⟩
def At.setE (H:At T) (t:Nat) (e:DE T):At T:=⟨H.v,fun i=>if i=t then e else H.e i⟩
theorem Cw.setV (H:At T) (t:Nat) (v:DV T):Cw t H (H.setV t v):=fun i hi=>⟨by simp only [At.setV];rw [if_neg (by omega)],rfl⟩
theorem Cw.setE (H:At T) (t:Nat) (e:DE T):Cw t H (H.setE t e):=fun i hi=>⟨rfl,by simp only [At.setE];rw [if_neg (by omega)]⟩
structure Nx (H:At T) (st:Ag T) (H':At T) (st':Ag T):Prop where
 ext:Cw st.nx H H'
 le:st.nx≤st'.nx
 ok:AB H' st'
theorem Nx.refl {H:At T} {st:Ag T} (h:AB H st):Nx H st H st:=⟨Cw.refl _ _,Nat.le_refl _,h⟩
theorem Nx.trans {H H' H'':At T} {a b c:Ag T} (h:Nx H a H' b) (k:Nx H' b H'' c):Nx H a H'' c:=⟨h.ext.trans k.ext h.le,Nat.le_trans h.le k.le,k.ok⟩
theorem Dv {H H':At T} {n m:Nat} (he:Cw n H H') (hnm:n≤m) {l:List (DE T)} (h: ∀ e∈l,e.tag<n∧H.e e.tag=e∧e.x.ok): ∀ e∈l,e.tag<m∧H'.e e.tag=e∧e.x.ok:=fun e hm=>by
 obtain⟨a,b,c⟩:=h e hm
 exact⟨Nat.lt_of_lt_of_le a hnm,by rw [(he e.tag a).2];exact b,c⟩
theorem Ag.put_nx {H:At T} {st:Ag T} (h:AB H st) (d:Option Nat) {v:DV T} (hv:v.ok H st.nx): ∃ H',Nx H st H' (st.put d v):=by
 cases d with
 | none=>exact⟨H,Nx.refl h⟩
 | some d=>
   have he:=Cw.setV H st.nx v
   refine⟨H.setV st.nx v,he,by simp [Ag.put],?_,?_,?_,h.nd⟩
   ·intro s t w hm
    simp only [Ag.put]at hm ⊢
    rcases List.mem_cons.1 hm with hm | hm
    ·injection hm with h1 hm;injection hm with h2 h3;subst h1 h2 h3
     exact⟨Nat.lt_succ_self _,by simp [At.setV],DV.ok_ext he (Nat.le_succ _) hv⟩
    ·exact BB he (Nat.le_succ _) h.tm s t w hm
   ·intro f hf
    exact BB he (Nat.le_succ _) (h.gh f hf)
   ·exact Dv he (Nat.le_succ _) h.so
def KU (p:DV T→Bool) (f:DV T→DV T):Nat→Tm T→Tm T
 | _,[]=>[]
 | n,(s,t,v)::r=>match p v with
   | true=>(s,n,f v)::KU p f (n+1) r
   | false=>(s,t,v)::KU p f (n+1) r
def LA (p:DV T→Bool) (f:DV T→DV T):Nat→List (Nat×Tm T)→List (Nat×Tm T)
 | _,[]=>[]
 | n,(m,tm)::r=>(m,KU p f n tm)::LA p f (n+tm.length) r
def JB:List (Nat×Tm T)→Nat
 | []=>0
 | (_,tm)::r=>tm.length+JB r
def LB (q:DX T→Bool) (g:DX T→DX T):Nat→List (DE T)→List (DE T)
 | _,[]=>[]
 | n,e::r=>match q e.x with
   | true=>⟨e.id,n,g e.x⟩::LB q g (n+1) r
   | false=>e::LB q g (n+1) r
def Ag.remap (p:DV T→Bool) (f:DV T→DV T) (q:DX T→Bool) (g:DX T→DX T) (st:Ag T):Ag T:=
 {st with tm:=KU p f st.nx st.tm,gh:=LA p f (st.nx+st.tm.length) st.gh,so:=LB q g (st.nx+st.tm.length+JB st.gh) st.so,nx:=st.nx+st.tm.length+JB st.gh+st.so.length}
section
variable {p:DV T→Bool} {f:DV T→DV T} {q:DX T→Bool} {g:DX T→DX T}
theorem P3 (hf: ∀ {H:At T} {n:Nat} {v:DV T},v.ok H n→(f v).ok H n): ∀ (tm:Tm T) (n:Nat) (H:At T),Lw H n tm→ ∃ H',Cw n H H'∧Lw H' (n+tm.length) (KU p f n tm)
 | [],n,H,_=>⟨H,Cw.refl _ _,fun _ _ _ h=>by cases h⟩
 | (s,t,v)::r,n,H,h=>by
   obtain⟨a,b,c⟩:=h s t v (by simp)
   have hr:Lw H n r:=fun s' t' v' hm=>h s' t' v' (by simp [hm])
   unfold KU
   split
   ·have he:=Cw.setV H n (f v)
    obtain⟨H',h1,h2⟩:=P3 hf r (n+1) (H.setV n (f v)) (BB he (Nat.le_succ _) hr)
    refine⟨H',he.trans h1 (Nat.le_succ _),fun s' t' v' hm=>?_⟩
    rw [show n+((s,t,v)::r).length =n+1+r.length by simp;omega]
    rcases List.mem_cons.1 hm with hm | hm
    ·injection hm with e1 hm;injection hm with e2 e3;subst e1 e2 e3
     refine⟨by omega,?_,DV.ok_ext (he.trans h1 (Nat.le_succ _)) (by omega) (hf c)⟩
     rw [(h1 t' (by omega)).1];simp [At.setV]
    ·exact h2 s' t' v' hm
   ·obtain⟨H',h1,h2⟩:=P3 hf r (n+1) H (BB (Cw.refl _ _) (Nat.le_succ _) hr)
    have h1':Cw n H H':=fun i hi=>h1 i (by omega)
    refine⟨H',h1',fun s' t' v' hm=>?_⟩
    rw [show n+((s,t,v)::r).length =n+1+r.length by simp;omega]
    rcases List.mem_cons.1 hm with hm | hm
    ·injection hm with e1 hm;injection hm with e2 e3;subst e1 e2 e3
     refine⟨by omega,?_,DV.ok_ext h1' (by omega) c⟩
     rw [(h1' t' a).1];exact b
    ·exact h2 s' t' v' hm
theorem aH (hf: ∀ {H:At T} {n:Nat} {v:DV T},v.ok H n→(f v).ok H n): ∀ (l:List (Nat×Tm T)) (n:Nat) (H:At T),(∀ x∈l,Lw H n x.2)→ ∃ H',Cw n H H'∧ ∀ x∈LA p f n l,Lw H' (n+JB l) x.2
 | [],n,H,_=>⟨H,Cw.refl _ _,fun _ h=>by cases h⟩
 | (m,tm)::r,n,H,h=>by
   obtain⟨H1,a,b⟩:=P3 (p:=p) hf tm n H (h (m,tm) (by simp))
   obtain⟨H2,c,d⟩:=aH hf r (n+tm.length) H1 (fun x hx=>BB a (by omega) (h x (by simp [hx])))
   refine⟨H2,a.trans c (by omega),fun x hx=>?_⟩
   have e:n+JB ((m,tm)::r)=n+tm.length+JB r:=by simp [JB];omega
   rw [e]
   rcases List.mem_cons.1 hx with rfl | hx
   ·exact BB c (by omega) b
   ·exact d x hx
theorem VN (hg: ∀ {x:DX T},x.ok→(g x).ok): ∀ (l:List (DE T)) (n:Nat) (H:At T),(∀ e∈l,e.tag<n∧H.e e.tag=e∧e.x.ok)→ ∃ H',Cw n H H'∧ ∀ e∈LB q g n l,e.tag<n+l.length∧H'.e e.tag=e∧e.x.ok
 | [],n,H,_=>⟨H,Cw.refl _ _,fun _ h=>by cases h⟩
 | e::r,n,H,h=>by
   obtain⟨a,b,c⟩:=h e (by simp)
   have hr: ∀ e∈r,e.tag<n∧H.e e.tag=e∧e.x.ok:=fun e hm=>h e (by simp [hm])
   unfold LB
   split
   ·have he:=Cw.setE H n ⟨e.id,n,g e.x⟩
    obtain⟨H',h1,h2⟩:=VN hg r (n+1) (H.setE n ⟨e.id,n,g e.x⟩) (Dv he (Nat.le_succ _) hr)
    refine⟨H',he.trans h1 (Nat.le_succ _),fun x hm=>?_⟩
    rw [show n+(e::r).length =n+1+r.length by simp;omega]
    rcases List.mem_cons.1 hm with rfl | hm
    ·refine⟨by simp only;omega,?_,hg c⟩
     simp only
     rw [(h1 n (by omega)).2];simp [At.setE]
    ·exact h2 x hm
   ·obtain⟨H',h1,h2⟩:=VN hg r (n+1) H (Dv (Cw.refl _ _) (Nat.le_succ _) hr)
    have h1':Cw n H H':=fun i hi=>h1 i (by omega)
    refine⟨H',h1',fun x hm=>?_⟩
    rw [show n+(e::r).length =n+1+r.length by simp;omega]
    rcases List.mem_cons.1 hm with rfl | hm
    ·exact⟨by omega,by rw [(h1' x.tag a).2];exact b,c⟩
    ·exact h2 x hm
theorem Xu: ∀ (l:List (DE T)) (n:Nat),(LB q g n l).map DE.id=l.map DE.id
 | [],_=>rfl
 | e::r,n=>by
   unfold LB
   split<;>simp [Xu r]
theorem Ag.remap_nx {H:At T} {st:Ag T} (h:AB H st) (hf: ∀ {H:At T} {n:Nat} {v:DV T},v.ok H n→(f v).ok H n) (hg: ∀ {x:DX T},x.ok→(g x).ok): ∃ H',Nx H st H' (st.remap p f q g):=by
 obtain⟨H1,a1,b1⟩:=P3 (p:=p) hf st.tm st.nx H h.tm
 obtain⟨H2,a2,b2⟩:=aH (p:=p) hf st.gh (st.nx+st.tm.length) H1 (fun x hx=>BB a1 (by omega) (h.gh x hx))
 obtain⟨H3,a3,b3⟩:=VN (q:=q) hg st.so (st.nx+st.tm.length+JB st.gh) H2 (Dv (a1.trans a2 (by omega)) (by omega) h.so)
 have a23:Cw (st.nx+st.tm.length) H1 H3:=a2.trans a3 (by omega)
 refine⟨H3,a1.trans a23 (by omega),by simp only [Ag.remap];omega,?_,?_,b3,by simp only [Ag.remap,Xu];exact h.nd⟩
 ·exact BB a23 (by simp only [Ag.remap];omega) b1
 ·exact fun x hx=>BB a3 (by simp only [Ag.remap];omega) (b2 x hx)
theorem Jd (hu:p .u =false) (i:Nat): ∀ (tm:Tm T) (n:Nat),lk (KU p f n tm) i=(match p (lk tm i)with | true=>f (lk tm i) | false=>lk tm i)
 | [],n=>by simp [KU,lk,hu]
 | (s,t,v)::r,n=>by
   unfold KU
   split
   ·rename_i hp
    simp only [lk]
    cases Nat.beq s i with
    | true=>simp only [hp]
    | false=>exact Jd hu i r (n+1)
   ·rename_i hp
    simp only [lk]
    cases Nat.beq s i with
    | true=>simp only [hp]
    | false=>exact Jd hu i r (n+1)
theorem Xv {F:V→V} (hu:p .u =false) {tm:Tm T} (h1: ∀ i,p (lk tm i)=true→(f (lk tm i)).toV =F (lk tm i).toV) (h2: ∀ i,p (lk tm i)=false→F (lk tm i).toV =(lk tm i).toV) (m n:Nat):Au m (KU p f n tm)=(Au m tm).map F:=by
 unfold Au
 rw [List.map_map]
 apply List.map_congr_left
 intro i _
 simp only [Function.comp,Jd hu]
 split
 ·rename_i h;exact h1 i h
 ·rename_i h;exact(h2 i h).symm
theorem Xw {F:V→V} (hu:p .u =false): ∀ {l:List (Nat×Tm T)} (n:Nat),(∀ x∈l, ∀ i,(p (lk x.2 i)=true→(f (lk x.2 i)).toV =F (lk x.2 i).toV)∧(p (lk x.2 i)=false→F (lk x.2 i).toV =(lk x.2 i).toV))→
 (LA p f n l).flatMap (fun f=>Au f.1 f.2)=(l.flatMap fun f=>Au f.1 f.2).map F
 | [],_,_=>rfl
 | (m,tm)::r,n,h=>by
   simp only [LA,List.flatMap_cons,List.map_append]
   rw [Xw hu (n+tm.length) (fun x hx=>h x (by simp [hx])),Xv hu (fun i=>(h (m,tm) (by simp) i).1) (fun i=>(h (m,tm) (by simp) i).2)]
theorem J3 {F:As→As}: ∀ {l:List (DE T)} (n:Nat),(∀ e∈l,(q e.x=true→ ∀ t,(⟨e.id,t,g e.x⟩:DE T).toE =F e.toE)∧(q e.x=false→F e.toE=e.toE))→(LB q g n l).map DE.toE=(l.map DE.toE).map F
 | [],_,_=>rfl
 | e::r,n,h=>by
   have ih:=J3 (n+1) (fun x hx=>h x (by simp [hx])) (l:=r)
   unfold LB
   split
   ·rename_i hq
    simp only [List.map_cons,ih,(h e (by simp)).1 hq]
   ·rename_i hq
    simp only [List.map_cons,ih,(h e (by simp)).2 hq]
end
theorem Cl (a b:Ah):A1 a b=(a==b):=by
 cases h:A1 a b with
 | true=>have:=Az.1 h;subst this;simp
 | false=>
   have:a ≠ b:=fun e=>by rw [Az.2 e]at h;cases h
   simp [this]
def gS (id:Ah):C→Bool
 | .osl i=>A1 i id
 | .ptr i _=>A1 i id
 | .bsl i _ _=>A1 i id
 | .rsl i _ _ _=>A1 i id
 | .bld i _=>A1 i id
 | .mref i=>A1 i id
 | .clo _ cs=>BE id cs
 | .bmv _ cs=>BE id cs
 | _=>false
theorem gU (id:Ah) (c:C):gS id c=c.men id:=by
 cases c<;>simp only [gS,C.men,Cl]
mutual
def DC.men (id:Ah):DC T→Bool
 | .c x=>gS id x
 | .rp i _ _ _=>A1 i id
 | .ap i _ _ _ _ _=>A1 i id
 | .bs i _ _ _=>A1 i id
 | .clo _ _ cs=>My id cs
 | .k _ _=>false
 | .ip .. =>false
def My (id:Ah):List (DC T)→Bool
 | []=>false
 | c::cs=>match c.men id with
   | true=>true
   | false=>My id cs
end
mutual
theorem DC.men_eq (id:Ah): ∀ c:DC T,c.men id=c.toC.men id
 | .c x=>by simp only [DC.men,DC.toC,gU]
 | .rp .. =>by simp only [DC.men,DC.toC,C.men,Cl]
 | .ap .. =>by simp only [DC.men,DC.toC,C.men,Cl]
 | .bs .. =>by simp only [DC.men,DC.toC,C.men,Cl]
 | .clo true _ cs=>by simp only [DC.men,DC.toC,C.men,J4 id cs]
 | .clo false _ cs=>by simp only [DC.men,DC.toC,C.men,J4 id cs]
 | .k kd x=>by cases kd<;>simp only [DC.men,DC.toC,Bd,C.men]
 | .ip .. =>by simp only [DC.men,DC.toC,C.men]
theorem J4 (id:Ah): ∀ cs:List (DC T),My id cs=BE id (Aq cs)
 | []=>by simp only [My,Aq,BE]
 | c::cs=>by
   simp only [My,Aq,BE,DC.men_eq id c,J4 id cs]
   cases c.toC.men id<;>rfl
end
mutual
def DV.men (id:Ah):DV T→Bool
 | .c x=>x.men id
 | .agg cs=>My id cs
 | .tup vs=>UG id vs
 | .g _ v=>v.men id
 | .u =>false
def UG (id:Ah):List (DV T)→Bool
 | []=>false
 | v::vs=>match v.men id with
   | true=>true
   | false=>UG id vs
end
mutual
theorem DV.men_le (id:Ah): ∀ v:DV T,v.men id=false→v.toV.men id=false
 | .c x,h=>by simpa only [DV.men,DV.toV,V.men,DC.men_eq] using h
 | .agg cs,h=>by simpa only [DV.men,DV.toV,V.men,J4] using h
 | .tup vs,h=>by simp only [DV.men]at h;simp only [DV.toV,V.men];exact Xx id vs h
 | .g k v,h=>by simp only [DV.men]at h;simp only [DV.toV,V.men,DV.men_le id v h,Bool.false_and]
 | .u,_=>by simp only [DV.toV,V.men]
theorem Xx (id:Ah): ∀ vs:List (DV T),UG id vs=false→Ig id (AO vs)=false
 | [],_=>by simp only [AO,Ig]
 | v::vs,h=>by
   simp only [UG]at h
   split at h
   ·cases h
   ·rename_i hv
    simp only [AO,Ig,DV.men_le id v hv,Xx id vs h,Bool.or_self]
end
def Q9 (id:Ah) (c:DC T):DC T:=match c.men id with
 | true=> .c .any
 | false=>c
def DX.men (id:Ah):DX T→Bool
 | .box cs=>My id cs
 | .row _ _=>false
 | .deep .. =>false
def J5 (id:Ah):DX T→DX T
 | .box cs=> .box (cs.map (Q9 id))
 | x=>x
def Xy (p:DV T→Bool):Tm T→Bool
 | []=>true
 | (_,_,v)::r=>match p v with
   | true=>Xy p r
   | false=>false
def aI (p:DV T→Bool):List (Nat×Tm T)→Bool
 | []=>true
 | (_,tm)::r=>match Xy p tm with
   | true=>aI p r
   | false=>false
def aJ (q:DX T→Bool):List (DE T)→Bool
 | []=>true
 | e::r=>match q e.x with
   | true=>aJ q r
   | false=>false
theorem LC {p:DV T→Bool} (hu:p .u =true): ∀ {tm:Tm T},Xy p tm=true→ ∀ i,p (lk tm i)=true
 | [],_,i=>hu
 | (s,t,v)::r,h,i=>by
   simp only [Xy]at h
   split at h
   ·rename_i hv
    simp only [lk]
    cases Nat.beq s i
    ·exact LC hu h i
    ·exact hv
   ·cases h
theorem Ra {p:DV T→Bool} (hu:p .u =true): ∀ {l:List (Nat×Tm T)},aI p l=true→ ∀ x∈l, ∀ i,p (lk x.2 i)=true
 | [],_,x,hx,_=>by cases hx
 | (m,tm)::r,h,x,hx,i=>by
   simp only [aI]at h
   split at h
   ·rename_i hv
    rcases List.mem_cons.1 hx with rfl | hx
    ·exact LC hu hv i
    ·exact Ra hu h x hx i
   ·cases h
theorem Rb {q:DX T→Bool}: ∀ {l:List (DE T)},aJ q l=true→ ∀ e∈l,q e.x=true
 | [],_,e,he=>by cases he
 | x::r,h,e,he=>by
   simp only [aJ]at h
   split at h
   ·rename_i hv
    rcases List.mem_cons.1 he with rfl | he
    ·exact hv
    ·exact Rb h e he
   ·cases h
def Ag.noMen (st:Ag T) (id:Ah):Bool:=Xy (fun v=> !(v.men id)) st.tm&&(aI (fun v=> !(v.men id)) st.gh&&aJ (fun x=> !(x.men id)) st.so)
def Ag.kill (st:Ag T) (id:Ah):Option (Ag T):=match CJ id||Ed id with
 | true=>none
 | false=>match st.noMen id with
   | true=>some {st with so:=st.so.filter fun e=> !(A1 e.id id)}
   | false=>some (let s:=st.remap (DV.men id) (fun _=> .u) (DX.men id) (J5 id);{s with so:=s.so.filter fun e=> !(A1 e.id id)})
theorem ci {id:Ah} {c:DC T} (h:c.ok):(Q9 id c).ok :=by
 unfold Q9
 split
 ·simp only [DC.ok]
 ·exact h
theorem Zc (id:Ah) (c:DC T):(Q9 id c).toC =FX id c.toC:=by
 unfold Q9 FX
 rw [DC.men_eq]
 cases c.toC.men id<;>simp [DC.toC]
theorem F6 {α:Type} {F:α→α}: ∀ {l:List α},(∀ x∈l,F x=x)→l.map F=l
 | [],_=>rfl
 | a::l,h=>by rw [List.map_cons,h a (by simp),F6 (fun x hx=>h x (by simp [hx]))]
theorem eA {F:V→V} {m:Nat} {tm:Tm T} (h: ∀ i,F (lk tm i).toV =(lk tm i).toV):(Au m tm).map F=Au m tm:=by
 refine F6 fun x hx=>?_
 obtain⟨i,_,rfl⟩:=List.mem_map.1 hx
 exact h i
theorem mi {F:V→V} {l:List (Nat×Tm T)} (h: ∀ x∈l, ∀ i,F (lk x.2 i).toV =(lk x.2 i).toV):(l.flatMap fun f=>Au f.1 f.2).map F=l.flatMap fun f=>Au f.1 f.2:=by
 refine F6 fun x hx=>?_
 obtain⟨y,hy,hx⟩:=List.mem_flatMap.1 hx
 obtain⟨i,_,rfl⟩:=List.mem_map.1 hx
 exact h y hy i
def Ip:List V→List V→Prop
 | [],[]=>True
 | x::xs,y::ys=>(y= .undef ∨y=x)∧Ip xs ys
 | _,_=>False
theorem Ip.refl: ∀ l:List V,Ip l l
 | []=>trivial
 | x::xs=>⟨.inr rfl,Ip.refl xs⟩
theorem Ip.append: ∀ {a b c d:List V},Ip a b→Ip c d→Ip (a++c) (b++d)
 | [],[],_,_,_,h=>h
 | [],_::_,_,_,h,_=>h.elim
 | _::_,[],_,_,h,_=>h.elim
 | _::_,_::_,_,_,h,k=>⟨h.1,h.2.append k⟩
theorem Ip.get: ∀ {a b:List V},Ip a b→b.length=a.length∧ ∀ i,b.getD i .undef = .undef ∨b.getD i .undef =a.getD i .undef
 | [],[],_=>⟨rfl,fun _=> .inr rfl⟩
 | [],_::_,h=>h.elim
 | _::_,[],h=>h.elim
 | x::xs,y::ys,h=>by
   obtain⟨h1,h2⟩:=Ip.get h.2
   refine⟨by simp [h1],fun i=>?_⟩
   cases i with
   | zero=>simpa using h.1
   | succ i=>simpa using h2 i
theorem Ip.map {α:Type} {f g:α→V}: ∀ {l:List α},(∀ x∈l,g x= .undef ∨g x=f x)→Ip (l.map f) (l.map g)
 | [],_=>trivial
 | a::l,h=>⟨h a (by simp),Ip.map fun x hx=>h x (by simp [hx])⟩
theorem Ip.set: ∀ {a b:List V},Ip a b→ ∀ (i:Nat) (v:V),Ip (a.set i v) (b.set i v)
 | [],[],_,_,_=>trivial
 | [],_::_,h,_,_=>h.elim
 | _::_,[],h,_,_=>h.elim
 | _::_,_::_,h,0,v=>⟨.inr rfl,h.2⟩
 | _::_,_::_,h,i+1,v=>⟨h.1,h.2.set i v⟩
theorem Ip.of {a b:List V} (hl:b.length=a.length) (h: ∀ i,b.getD i .undef = .undef ∨b.getD i .undef =a.getD i .undef):Ip a b:=by
 induction a generalizing b with
 | nil=>
   cases b with
   | nil=>trivial
   | cons y ys=>simp at hl
 | cons x xs ih=>
   cases b with
   | nil=>simp at hl
   | cons y ys=>exact⟨by simpa using h 0,ih (by simpa using hl) (fun i=>by simpa using h (i+1))⟩
theorem Ck.put {a b:St} (h:Ck a b) (d:Option Nat) (v:V):Ck (a.put d v) (b.put d v):=by
 cases d with
 | none=>exact h
 | some d=>
   have:=((Ip.of h.len h.tm).set d v).get
   exact⟨this.1,this.2,h.so,h.nd,h.gh,h.pre⟩
theorem Dw {H:At T} {st:Ag T} (h:AB H st) (p:DE T→Bool):AB H {st with so:=st.so.filter p}:=
 ⟨h.tm,h.gh,fun e he=>h.so e (List.mem_filter.1 he).1,List.Sublist.nodup (List.Sublist.map _ List.filter_sublist) h.nd⟩
theorem Rc (id:Ah) (hd:CJ id=false) (l:List (DE T)):(l.filter fun e=> !(A1 e.id id)).map DE.toE=(l.map DE.toE).filter (fun e=>e.id != id&& !(CJ id&&Ed e.id)):=by
 induction l with
 | nil=>rfl
 | cons e l ih=>
   simp only [List.filter_cons,List.map_cons,DE.toE_id,hd,Bool.false_and,Bool.not_false,Bool.and_true,Cl]at ih ⊢
   cases h:e.id==id with
   | true=>simp only [bne,h,Bool.not_true,Bool.false_eq_true,if_false];exact ih
   | false=>simp only [bne,h,Bool.not_false,if_true,List.map_cons];rw [ih];rfl
theorem VO {id:Ah} {e:DE T} (h:e.x.men id=false):e.toE.fre id=true:=by
 unfold As.fre DE.toE
 cases hxx:e.x with
 | box cs=>rw [hxx]at h;simp only [DX.men,J4]at h;simp [h]
 | row E l=>rfl
 | deep E n l h=>rfl
theorem Zd {id:Ah} {e:DE T} (t:Nat):(⟨e.id,t,J5 id e.x⟩:DE T).toE =As.kill id e.toE:=by
 unfold DE.toE
 cases hxx:e.x with
 | box cs=>
   simp only [J5,As.kill,BK,List.map_map,As.mk.injEq,and_true,true_and]
   exact List.map_congr_left fun c _=>Zc id c
 | row E l=>rfl
 | deep E n l h=>rfl
theorem Xz (id:Ah) (p:Ah→Bool→Bool) (l:List As):(l.map (As.kill id)).filter (fun e=>e.id != id&& !(CJ id&&Ed e.id))=(l.filter (fun e=>e.id != id&& !(CJ id&&Ed e.id))).map (As.kill id):=by
 induction l with
 | nil=>rfl
 | cons e l ih=>
   simp only [List.filter_cons,List.map_cons,As.kill_id]
   split
   ·rw [ih,List.map_cons]
   ·exact ih
theorem XA {id:Ah} {m n:Nat} {tm:Tm T}:Ip ((Au m tm).map (D5 id)) (Au m (KU (DV.men id) (fun _=> .u) n tm)):=by
 unfold Au
 rw [List.map_map]
 refine Ip.map fun i _=>?_
 simp only [Function.comp,Jd (p:=DV.men id) (f:=fun _=>DV.u) (by simp [DV.men])]
 split
 ·exact .inl (by simp only [DV.toV])
 ·rename_i h;exact .inr (QQ (DV.men_le id _ h)).symm
theorem jy {id:Ah}: ∀ (l:List (Nat×Tm T)) (n:Nat),Ip ((l.flatMap fun f=>Au f.1 f.2).map (D5 id)) ((LA (DV.men id) (fun _=> .u) n l).flatMap fun f=>Au f.1 f.2)
 | [],_=>trivial
 | (m,tm)::r,n=>by
   simp only [LA,List.flatMap_cons,List.map_append]
   exact XA.append (jy r _)
theorem Ag.kill_spec {H:At T} {st st':Ag T} {id:Ah} (h:AB H st) (hk:st.kill id=some st'):(∃ H',Nx H st H' st')∧Ck (st.toSt.kill id) st'.toSt∧st'.toSt.so=(st.toSt.kill id).so ∧CJ id=false∧Ed id=false∧st'.pre=st.pre∧ ∀ e∈st'.so,e.id ≠ id:=by
 have nid: ∀ l:List (DE T), ∀ e∈l.filter (fun e=> !(A1 e.id id)),e.id ≠ id:=fun l e he q=>by
  have:=(List.mem_filter.1 he).2
  rw [Az.2 q]at this;cases this
 unfold Ag.kill at hk
 split at hk
 ·cases hk
 ·rename_i hd
  simp only [Bool.or_eq_false_iff]at hd
  split at hk
  ·rename_i hn
   injection hk with hk;subst hk
   simp only [Ag.noMen,Bool.and_eq_true]at hn
   obtain⟨n1,n2,n3⟩:=hn
   have k1: ∀ i,D5 id (lk st.tm i).toV =(lk st.tm i).toV :=fun i=>QQ (DV.men_le id _ (by simpa using LC (by simp [DV.men]) n1 i))
   have k2: ∀ x∈st.gh, ∀ i,D5 id (lk x.2 i).toV =(lk x.2 i).toV :=fun x hx i=>QQ (DV.men_le id _ (by simpa using Ra (by simp [DV.men]) n2 x hx i))
   have e:(({st with so:=st.so.filter fun e=> !(A1 e.id id)}:Ag T)).toSt =st.toSt.kill id:=by
    simp only [Ag.toSt,St.kill,St.mk.injEq,and_true]
    refine⟨(eA k1).symm,?_,(mi k2).symm⟩
    rw [Rc id hd.1]
    refine(F6 fun e he=>?_).symm
    obtain⟨x,hx,rfl⟩:=List.mem_map.1 (List.mem_filter.1 he).1
    have:=Rb n3 x hx
    exact As.kill_eq (VO (by simpa using this))
   exact⟨⟨H,Cw.refl _ _,Nat.le_refl _,Dw h _⟩,e▸Ck.refl _,by rw [e],hd.1,hd.2,rfl,nid _⟩
  ·injection hk with hk;subst hk
   obtain⟨H',hN⟩:=Ag.remap_nx (p:=DV.men id) (f:=fun _=> .u) (q:=DX.men id) (g:=J5 id) h (fun _=>by simp only [DV.ok]) (fun {x} hx=>by
    cases x with
    | box cs=>
      simp only [J5,DX.ok]at hx ⊢
      refine BV.2 fun c hc=>?_
      obtain⟨d,h1,rfl⟩:=List.mem_map.1 hc
      exact ci (BV.1 hx d h1)
    | row E l=>exact hx
    | deep E n l h=>exact hx)
   have hso:(((LB (DX.men id) (J5 id) (st.nx+st.tm.length+JB st.gh) st.so).filter fun e=> !(A1 e.id id)).map DE.toE)=(st.toSt.kill id).so :=by
    rw [Rc id hd.1,J3 (F:=As.kill id) _ (fun e _=>⟨fun _ t=>Zd t,fun hm=>As.kill_eq (VO hm)⟩)]
    exact Xz id (fun _ _=>true) _
   refine⟨⟨H',hN.ext,hN.le,Dw hN.ok _⟩,?_,hso,hd.1,hd.2,rfl,nid _⟩
   have a:=(XA (id:=id) (m:=st.m) (n:=st.nx) (tm:=st.tm)).get
   have b:=(jy (id:=id) st.gh (st.nx+st.tm.length)).get
   exact⟨a.1,a.2,fun e he=>by rw [←hso];exact he,fun hn=>by
    have:(Ag.toSt {(st.remap (DV.men id) (fun _=> .u) (DX.men id) (J5 id))with so:=(st.remap (DV.men id) (fun _=> .u) (DX.men id) (J5 id)).so.filter fun e=> !(A1 e.id id)}).so =(st.toSt.kill id).so :=hso
    rw [this];exact hn,b,rfl⟩
def Ag.new (st:Ag T) (id:Ah) (x:DX T):Option (Ag T):=match st.kill id,x.men id with
 | some s,false=>some {s with so:=⟨id,s.nx,x⟩::s.so,nx:=s.nx+1}
 | _,_=>none
theorem Ag.new_spec {H:At T} {st st':Ag T} {id:Ah} {x:DX T} (h:AB H st) (hx:x.ok) (hk:st.new id x=some st'):(∃ H',Nx H st H' st')∧Ck (st.toSt.new (⟨id,0,x⟩:DE T).toE) st'.toSt∧st'.pre=st.pre:=by
 unfold Ag.new at hk
 split at hk
 ·rename_i s hs hm
  injection hk with hk;subst hk
  obtain⟨⟨H',hN⟩,h2,h2',h3,h4,h5,h6⟩:=Ag.kill_spec h hs
  have he:=Cw.setE H' s.nx ⟨id,s.nx,x⟩
  refine⟨⟨H'.setE s.nx ⟨id,s.nx,x⟩,hN.trans ⟨he,Nat.le_succ _,?_,?_,?_,?_⟩⟩,?_,h5⟩
  ·exact BB he (Nat.le_succ _) hN.ok.tm
  ·exact fun f hf=>BB he (Nat.le_succ _) (hN.ok.gh f hf)
  ·intro e hm'
   rcases List.mem_cons.1 hm' with rfl | hm'
   ·exact⟨Nat.lt_succ_self _,by simp [At.setE],hx⟩
   ·exact Dv he (Nat.le_succ _) hN.ok.so e hm'
  ·rw [List.map_cons]
   refine List.nodup_cons.2 ⟨fun hm'=>?_,hN.ok.nd⟩
   obtain⟨e,h7,h8⟩:=List.mem_map.1 hm'
   exact h6 e h7 h8
  ·have e1:(⟨id,0,x⟩:DE T).toE.id =id:=DE.toE_id _
   have e2:(⟨id,s.nx,x⟩:DE T).toE =(⟨id,0,x⟩:DE T).toE :=rfl
   have e3:As.kill id (⟨id,0,x⟩:DE T).toE =(⟨id,0,x⟩:DE T).toE :=As.kill_eq (VO hm)
   have e5:(st.toSt.new (⟨id,0,x⟩:DE T).toE).so =(⟨id,0,x⟩:DE T).toE ::s.toSt.so:=by
    unfold St.new
    rw [e1,e3]
    unfold Og
    rw [e1,h3,h4,h2']
    rfl
   have e6:(Ag.toSt {s with so:=⟨id,s.nx,x⟩::s.so,nx:=s.nx+1}).so =(⟨id,0,x⟩:DE T).toE ::s.toSt.so:=rfl
   have hl:=h2
   rw [show (st.toSt.kill id)=st.toSt.kill (⟨id,0,x⟩:DE T).toE.id by rw [e1]]at hl
   exact⟨hl.len,hl.tm,fun e he=>by rw [e5];rw [e6]at he;exact he,fun hn=>by rw [e6];rw [e5]at hn;exact hn,hl.gh,by show s.pre=st.pre;exact h5⟩
 ·cases hk
end Go.PL
namespace Go.PL
open Go Go.RowKit
variable {T:Be}
def JC (id:Ah) (E:Nat) (l:List (T.den E)) (c:DC T):DC T:=match c.men id with
 | false=>c
 | true=>match c with
   | .c (.osl _)=> .k (.lst E) l
   | _=> .c .any
mutual
def Dx (id:Ah) (E:Nat) (l:List (T.den E)):DV T→DV T
 | .c x=> .c (JC id E l x)
 | .agg cs=> .agg (cs.map (JC id E l))
 | .tup vs=> .tup (Hs id E l vs)
 | .g k v=> .g k (Dx id E l v)
 | .u => .u
def Hs (id:Ah) (E:Nat) (l:List (T.den E)):List (DV T)→List (DV T)
 | []=>[]
 | v::vs=>Dx id E l v::Hs id E l vs
end
def OP (id:Ah) (E:Nat) (l:List (T.den E)):DX T→DX T
 | .box cs=> .box (cs.map (JC id E l))
 | x=>x
def Ag.frz (st:Ag T) (id:Ah):Option (Ag T):=match Db st id with
 | some ⟨E,l⟩=>some (let s:=st.remap (DV.men id) (Dx id E l) (DX.men id) (OP id E l);{s with so:=s.so.filter fun e=> !(A1 e.id id)})
 | none=>none
section
variable {id:Ah} {E:Nat} {l:List (T.den E)}
theorem UH (c:DC T):(JC id E l c).toC =HG id l.length (l.flatMap (T.enc E)) c.toC:=by
 unfold JC
 cases hm:c.men id with
 | false=>
   rw [DC.men_eq]at hm
   simp only
   cases hc:c.toC<;>rw [hc]at hm<;>simp only [C.men,beq_eq_false_iff_ne,ne_eq]at hm<;>simp only [HG]<;>first
    | (rw [if_neg hm];done)
    | (rw [if_neg (by simp [hm])];done)
    | rfl
 | true=>
   have hm':=hm
   rw [DC.men_eq]at hm'
   simp only
   split
   ·rename_i i
    simp only [DC.men,gS]at hm
    have:=Az.1 hm
    subst this
    simp only [DC.toC,Bd,HG,if_true]
   ·rename_i hne
    have: ∀ i,c.toC ≠ .osl i:=fun i he=>by
     cases c with
     | c x=>simp only [DC.toC]at he;subst he;exact hne i rfl
     | k kd x=>cases kd<;>simp [DC.toC,Bd]at he
     | ip=>simp [DC.toC]at he
     | rp=>simp [DC.toC]at he
     | ap=>simp [DC.toC]at he
     | bs=>simp [DC.toC]at he
     | clo b f cs=>cases b<;>simp [DC.toC]at he
    cases hc:c.toC<;>rw [hc]at hm' this<;>simp only [C.men,beq_iff_eq,Bool.false_eq_true]at hm'<;>simp only [HG,DC.toC]<;>first
     | exact(this _ rfl).elim
     | (rw [if_pos hm'];done)
theorem Re {c:DC T} (h:c.ok):(JC id E l c).ok :=by
 unfold JC
 split
 ·exact h
 ·split<;>simp only [DC.ok]
theorem Rf (cs:List (DC T)):Aq (cs.map (JC id E l))=(Aq cs).map (HG id l.length (l.flatMap (T.enc E))):=by
 rw [BK,BK,List.map_map,List.map_map]
 exact List.map_congr_left fun c _=>UH c
mutual
theorem KF: ∀ v:DV T,(Dx id E l v).toV =Iz id l.length (l.flatMap (T.enc E)) v.toV
 | .c x=>by simp only [Dx,DV.toV,Iz,UH]
 | .agg cs=>by simp only [Dx,DV.toV,Iz,Rf]
 | .tup vs=>by simp only [Dx,DV.toV,Iz,Rh vs]
 | .g k v=>by simp only [Dx,DV.toV,Iz,KF v]
 | .u =>by simp only [Dx,DV.toV,Iz]
theorem Rh: ∀ vs:List (DV T),AO (Hs id E l vs)=IA id l.length (l.flatMap (T.enc E)) (AO vs)
 | []=>by simp only [Hs,AO,IA]
 | v::vs=>by simp only [Hs,AO,IA,KF v,Rh vs]
end
theorem Ri: ∀ {cs:List (DC T)},My id cs=false→cs.map (JC id E l)=cs
 | [],_=>rfl
 | c::cs,h=>by
   simp only [My]at h
   split at h
   ·cases h
   ·rename_i hc
    have:JC id E l c=c:=by unfold JC;simp only [hc]
    rw [List.map_cons,Ri h,this]
mutual
theorem Rj: ∀ v:DV T,v.men id=false→Dx id E l v=v
 | .c x,h=>by simp only [DV.men]at h;simp only [Dx,JC,h]
 | .agg cs,h=>by simp only [DV.men]at h;simp only [Dx,Ri h]
 | .tup vs,h=>by simp only [DV.men]at h;simp only [Dx,UI vs h]
 | .g k v,h=>by simp only [DV.men]at h;simp only [Dx,Rj v h]
 | .u,_=>by simp only [Dx]
theorem UI: ∀ vs:List (DV T),UG id vs=false→Hs id E l vs=vs
 | [],_=>by simp only [Hs]
 | v::vs,h=>by
   simp only [UG]at h
   split at h
   ·cases h
   ·rename_i hv
    simp only [Hs,Rj v hv,UI vs h]
end
theorem Mz {f:DC T→DC T} (hf: ∀ c,c.ok→(f c).ok) {cs:List (DC T)} (h:BU cs):BU (cs.map f):=BV.2 fun c hc=>by
 obtain⟨d,h1,rfl⟩:=List.mem_map.1 hc
 exact hf d (BV.1 h d h1)
mutual
theorem Rk {H:At T} {n:Nat}: ∀ {v:DV T},v.ok H n→(Dx id E l v).ok H n
 | .c x,h=>by simp only [DV.ok,Dx]at h ⊢;exact Re h
 | .agg cs,h=>by simp only [DV.ok,Dx]at h ⊢;exact Mz (fun _ q=>Re q) h
 | .tup vs,h=>by simp only [DV.ok,Dx]at h ⊢;exact UJ h
 | .g k v,h=>by simp only [DV.ok,Dx]at h ⊢;exact⟨h.1,fun q=>Rk (h.2 q)⟩
 | .u,_=>by simp only [DV.ok,Dx]
theorem UJ {H:At T} {n:Nat}: ∀ {vs:List (DV T)},Cn H n vs→Cn H n (Hs id E l vs)
 | [],_=>by simp only [Cn,Hs]
 | v::vs,h=>by simp only [Cn,Hs]at h ⊢;exact⟨Rk h.1,UJ h.2⟩
end
theorem UK {e:DE T} (t:Nat):(⟨e.id,t,OP id E l e.x⟩:DE T).toE =As.frz id l.length (l.flatMap (T.enc E)) e.toE:=by
 unfold DE.toE
 cases hxx:e.x with
 | box cs=>simp only [OP,As.frz,Rf]
 | row E l=>rfl
 | deep E n l h=>rfl
theorem eB {e:DE T} (h:e.x.men id=false):As.frz id l.length (l.flatMap (T.enc E)) e.toE=e.toE:=by
 rw [←UK e.tag]
 cases hxx:e.x with
 | box cs=>rw [hxx]at h;simp only [DX.men]at h;simp only [OP,Ri h,DE.toE,hxx]
 | row E l=>simp only [OP,DE.toE,hxx]
 | deep E n l h=>simp only [OP,DE.toE,hxx]
theorem Ze (id:Ah) (n:Nat) (cs:List C) (l:List As):(l.map (As.frz id n cs)).filter (fun e=>e.id != id)=(l.filter (fun e=>e.id != id)).map (As.frz id n cs):=by
 induction l with
 | nil=>rfl
 | cons e l ih=>
   simp only [List.filter_cons,List.map_cons,As.frz_id]
   split
   ·rw [ih,List.map_cons]
   ·exact ih
theorem filter_toE' (id:Ah) (l:List (DE T)):(l.filter fun e=> !(A1 e.id id)).map DE.toE=(l.map DE.toE).filter (fun e=>e.id != id):=by
 induction l with
 | nil=>rfl
 | cons e l ih=>
   simp only [List.filter_cons,List.map_cons,DE.toE_id,Cl]at ih ⊢
   cases h:e.id==id with
   | true=>simp only [bne,h,Bool.not_true,Bool.false_eq_true,if_false];exact ih
   | false=>simp only [bne,h,Bool.not_false,if_true,List.map_cons];rw [ih];rfl
end
theorem Ag.frz_spec {H:At T} {st st':Ag T} {id:Ah} (h:AB H st) (hk:st.frz id=some st'):(∃ H',Nx H st H' st')∧st'.toSt=st.toSt.freeze id∧st.toSt.okFrz id=true∧st'.pre=st.pre:=by
 unfold Ag.frz at hk
 split at hk
 ·rename_i E l hr
  injection hk with hk;subst hk
  obtain⟨hl,_,_⟩:=BF hr
  obtain⟨H',hN⟩:=Ag.remap_nx (p:=DV.men id) (f:=Dx id E l) (q:=DX.men id) (g:=OP id E l) h Rk (fun {x} hx=>by
   cases x with
   | box cs=>simp only [OP,DX.ok]at hx ⊢;exact Mz (fun _ q=>Re q) hx
   | row E l=>exact hx
   | deep E n l h=>exact hx)
  refine⟨⟨H',hN.ext,hN.le,Dw hN.ok _⟩,?_,by simp only [St.okFrz,hl],rfl⟩
  have F1: ∀ tm:Tm T, ∀ i,(DV.men id (lk tm i)=true→(Dx id E l (lk tm i)).toV =Iz id l.length (l.flatMap (T.enc E)) (lk tm i).toV)∧(DV.men id (lk tm i)=false→Iz id l.length (l.flatMap (T.enc E)) (lk tm i).toV =(lk tm i).toV):=fun tm i=>
   ⟨fun _=>KF _,fun hm=>by rw [←KF,Rj _ hm]⟩
  have fm: ∀ l':List V,IA id l.length (l.flatMap (T.enc E)) l'=l'.map (Iz id l.length (l.flatMap (T.enc E))):=by
   intro l'
   induction l' with
   | nil=>simp [IA]
   | cons a b ih=>simp [IA,ih]
  unfold St.freeze
  rw [hl]
  simp only [Bool.not_true,Bool.false_eq_true,if_false,Ag.toSt,Ag.remap,St.mk.injEq,and_true,fm]
  refine⟨Xv (by simp [DV.men]) (fun i=>(F1 st.tm i).1) (fun i=>(F1 st.tm i).2) _ _,?_,Xw (by simp [DV.men]) _ (fun x _=>F1 x.2)⟩
  rw [filter_toE',J3 (F:=As.frz id l.length (l.flatMap (T.enc E))) _ (fun e _=>⟨fun _ t=>UK t,fun hm=>eB hm⟩)]
  exact Ze _ _ _ _
 ·cases hk
def Ns (id:Ah) (t:Nat) (x:DX T):List (DE T)→List (DE T)
 | []=>[]
 | e::r=>match A1 e.id id with
   | true=>⟨e.id,t,x⟩::r
   | false=>e::Ns id t x r
def Ag.setX (st:Ag T) (id:Ah) (x:DX T):Ag T:={st with so:=Ns id st.nx x st.so,nx:=st.nx+1}
theorem Rl (id:Ah) (t:Nat) (x:DX T): ∀ l:List (DE T),(Ns id t x l).map DE.id=l.map DE.id
 | []=>rfl
 | e::r=>by
   unfold Ns
   split<;>simp [Rl id t x r]
theorem Rm {id:Ah} {t:Nat} {x:DX T} {F:As→As} (hF: ∀ a:As,a.id ≠ id→F a=a): ∀ {l:List (DE T)} {e:DE T},(l.map DE.id).Nodup →e∈l→e.id=id→F e.toE=(⟨id,t,x⟩:DE T).toE →(l.map DE.toE).map F=(Ns id t x l).map DE.toE
 | [],_,_,h,_,_=>by cases h
 | a::r,e,hn,hm,he,hf=>by
   rw [List.map_cons]at hn
   obtain⟨n1,n2⟩:=List.nodup_cons.1 hn
   unfold Ns
   split
   ·rename_i hb
    have hb:=Az.1 hb
    have hae:a=e:=by
     rcases List.mem_cons.1 hm with q | q
     ·exact q.symm
     ·exact absurd (List.mem_map.2 ⟨e,q,he.trans hb.symm⟩) n1
    subst hae
    simp only [List.map_cons,hf]
    rw [←hb]
    congr 1
    refine F6 fun y hy=>?_
    obtain⟨z,hz,rfl⟩:=List.mem_map.1 hy
    refine hF _ ?_
    rw [DE.toE_id]
    intro q
    exact n1 (List.mem_map.2 ⟨z,hz,q.trans hb.symm⟩)
   ·rename_i hb
    have hne:a.id ≠ id:=fun q=>by rw [Az.2 q]at hb;cases hb
    have hm':e∈r:=by
     rcases List.mem_cons.1 hm with q | q
     ·subst q;exact absurd he hne
     ·exact q
    simp only [List.map_cons,Rm hF n2 hm' he hf]
    rw [hF _ (by rw [DE.toE_id];exact hne)]
theorem Ag.setX_nx {H:At T} {st:Ag T} (h:AB H st) (id:Ah) {x:DX T} (hx:x.ok): ∃ H',Nx H st H' (st.setX id x):=by
 by_cases hid: ∃ e∈st.so,e.id=id
 ·obtain⟨e0,_,he0⟩:=hid
  have he:=Cw.setE H st.nx ⟨id,st.nx,x⟩
  refine⟨H.setE st.nx ⟨id,st.nx,x⟩,he,Nat.le_succ _,BB he (Nat.le_succ _) h.tm,fun f hf=>BB he (Nat.le_succ _) (h.gh f hf),?_,by simp only [Ag.setX,Rl];exact h.nd⟩
  have key: ∀ l:List (DE T),(∀ e∈l,e.tag<st.nx∧H.e e.tag=e∧e.x.ok)→ ∀ e∈Ns id st.nx x l,e.tag<st.nx+1∧(H.setE st.nx ⟨id,st.nx,x⟩).e e.tag=e∧e.x.ok:=by
   intro l
   induction l with
   | nil=>intro _ e hm;cases hm
   | cons a r ih=>
     intro hl e hm
     unfold Ns at hm
     split at hm
     ·rename_i hb
      have hb:=Az.1 hb
      rcases List.mem_cons.1 hm with rfl | hm
      ·exact⟨Nat.lt_succ_self _,by simp [At.setE,hb],hx⟩
      ·exact Dv he (Nat.le_succ _) hl e (by simp [hm])
     ·rcases List.mem_cons.1 hm with rfl | hm
      ·exact Dv he (Nat.le_succ _) hl e (by simp)
      ·exact ih (fun y hy=>hl y (by simp [hy])) e hm
  exact key st.so h.so
 ·have: ∀ l:List (DE T),(∀ e∈l,e.id ≠ id)→Ns id st.nx x l=l:=by
   intro l
   induction l with
   | nil=>intro _;rfl
   | cons a r ih=>
     intro hl
     unfold Ns
     split
     ·rename_i hb;exact absurd (Az.1 hb) (hl a (by simp))
     ·rw [ih (fun y hy=>hl y (by simp [hy]))]
  have hs:Ns id st.nx x st.so=st.so:=this st.so (fun e he q=>hid ⟨e,he,q⟩)
  exact⟨H,Cw.refl _ _,Nat.le_succ _,BB (Cw.refl _ _) (Nat.le_succ _) h.tm,fun f hf=>BB (Cw.refl _ _) (Nat.le_succ _) (h.gh f hf),by simp only [Ag.setX,hs];exact Dv (Cw.refl _ _) (Nat.le_succ _) h.so,by simp only [Ag.setX,hs];exact h.nd⟩
theorem Ag.setX_toSt {H:At T} {st:Ag T} (h:AB H st) {id:Ah} {x:DX T} {e:DE T} (hm:e∈st.so) (he:e.id=id) {cs:List C} {q:Bool} (hx:(⟨id,e.toE.row,cs,e.toE.pu&&q⟩:As)=(⟨id,st.nx,x⟩:DE T).toE):(st.setX id x).toSt =st.toSt.setCs id cs q:=by
 have:=Rm (t:=st.nx) (x:=x) (F:=fun e=>if e.id==id then⟨e.id,e.row,cs,e.pu&&q⟩else e) (fun a ha=>by simp [ha]) h.nd hm he (by rw [←hx];simp [DE.toE_id,he])
 simp only [Ag.toSt,Ag.setX,St.setCs,St.mk.injEq,and_true,true_and]
 exact this.symm
end Go.PL
namespace Go.PL
open Go Go.RowKit
variable {T:Be}
def XB:Operand→DV T→DV T
 | .const (.slice none 0 0),_=> .c (.c .nils)
 | _,v=>v
def Zf:DV T→DV T
 | .c (.c .nils)=> .c (.c (.sl 0 []))
 | v=>v
def OQ {α:Type} (i:Nat) (x:α):Nat→List α→List α
 | _,[]=>[]
 | j,a::r=>(if i=j then x else a)::OQ i x (j+1) r
theorem XC {α:Type} {i:Nat} {x:α}: ∀ (l:List α) (j:Nat),j≤i→OQ i x j l=l.set (i - j) x
 | [],_,_=>rfl
 | a::r,j,h=>by
   unfold OQ
   by_cases hj:i=j
   ·subst hj
    simp only [if_true,Nat.sub_self,List.set_cons_zero,List.cons.injEq,true_and]
    have: ∀ (r:List α) (k:Nat),i<k→OQ i x k r=r:=by
     intro r
     induction r with
     | nil=>intro _ _;rfl
     | cons b r ih=>intro k hk;rw [OQ,if_neg (by omega),ih _ (by omega)]
    exact this r _ (Nat.lt_succ_self _)
   ·rw [if_neg hj,XC r (j+1) (by omega),show i - j=(i - (j+1))+1 by omega,List.set_cons_succ]
def J6 (E:Nat):List (T.den E)→List (DC T)
 | []=>[]
 | x::l=>VM E x++J6 E l
theorem OR (E:Nat): ∀ l:List (T.den E),Aq (J6 E l)=l.flatMap (T.enc E)
 | []=>by simp [J6,Aq]
 | x::l=>by rw [J6,BQ,E3,OR E l,List.flatMap_cons]
theorem UL (E:Nat): ∀ l:List (T.den E),BU (J6 E l)
 | []=>by simp [J6,BU]
 | x::l=>CF (Jc E x) (UL E l)
def gV (E:Nat) (x:T.den E) (off:Nat) (cs:List (DC T)):Option (T.den E):=match Nat.ble (off+cs.length) (T.sz E)with
 | true=>dl false E ((VM E x).take off++(cs++(VM E x).drop (off+cs.length)))
 | false=>none
def Zg (P:Program) (t:TypeId) (d:Option Nat) (st:Ag T) (p v:DV T):M (Ag T):=
 match Ir P t with
 | none=> .no
 | some (_,n)=>match p with
   | .c (.c (.ptr id off))=>match HW st id,v.cells with
     | some ds,some cs=>mIf (Nat.beq cs.length n&&Nat.ble (off+n) ds.length) (.ret ((st.setX id (.box (ds.take off++(cs++ds.drop (off+n))))).put d .u))
     | _,_=> .no
   | .c (.rp id N i off)=>match Db st id,(Zf v).cells with
     | some ⟨E,l⟩,some cs=>mIf (Nat.beq N (T.sz E)&&Nat.beq cs.length n) (.opt (AN l i) fun x=>match gV E x off cs with
       | some x'=> .ret ((st.setX id (.row E (l.set i.toNat x'))).put d .u)
       | none=> .no)
     | _,_=> .no
   | .c (.ap id base m E i off)=>match HW st id,v.cells with
     | some ds,some cs=>match Ij E m (ds.drop base)with
       | some l=>mIf (Nat.beq cs.length n&&Nat.ble (base+m*T.sz E) ds.length) (.opt (AN l i) fun x=>match gV E x off cs with
         | some x'=> .ret ((st.setX id (.box (ds.take base++(J6 E (OQ i.toNat x' 0 l)++ds.drop (base+m*T.sz E))))).put d .u)
         | none=> .no)
       | none=> .no
     | _,_=> .no
   | _=> .no
def Ht (st:Ag T) (d:Nat) (x:DX T) (v:Ah→DC T):M (Ag T):=match st.new (d::st.pre) x with
 | some s=> .ret (s.put (some d) (.c (v (d::st.pre))))
 | none=> .no
def LD (P:Program) (t:TypeId):Option (List (DC T)):=
 match P.info? t with
 | some i=>match i.zero with
   | some z=>Ho z.cells.toList
   | none=>none
 | none=>none
def Rn:DC T→DC T
 | .c .nils => .c (.sl 0 [])
 | c=>c
def J7:DV T→DV T
 | .c x=> .c (Rn x)
 | .agg cs=> .agg (cs.map Rn)
 | v=>v
def J8 (P:Program) (st:Ag T) (d:Nat) (t:TypeId) (len:Nat) (ps:List (Nat×Operand)):M (Ag T):=
 match D8 P t,Hq st [] ps with
 | some (E,n,_),some vs=>match LD P E with
   | some z=>match OO (fun i=>some (i*n,n)) ((List.replicate len z).flatMap id) (vs.map fun x=>(x.1,J7 x.2))with
     | some cs=>match Ij E len cs with
       | some l=>mIf (Nat.beq n (T.sz E)&&(Nat.beq z.length n&&(Nat.blt 0 n&&(Nat.ble (len*n) (2 ^ 24)&&Nat.beq cs.length (len*n))))) (Ht st d (.row E l) fun i=> .c (.osl i))
       | none=> .no
     | none=> .no
   | none=> .no
 | _,_=> .no
def LE (P:Program) (st:Ag T) (d:Nat) (t:TypeId) (l c:Int):M (Ag T):=
 match D8 P t with
 | some (E,n,by')=>match LD P E with
   | some z=>match dl false E z with
     | some x=>mIf (Nat.beq n (T.sz E)&&(Nat.beq z.length n&&Nat.blt 0 n)) (.opt (AS (0≤l∧l≤c∧c*by'≤140737488355328∧c≤maxLen)) fun _=>Ht st d (.row E (List.replicate l.toNat x)) fun i=> .c (.osl i))
     | none=> .no
   | none=> .no
 | none=> .no
def HX:DC T→Option Ah
 | .c (.osl id)=>some id
 | _=>none
theorem Dy {c:DC T} {id:Ah} (h:HX c=some id):c= .c (.osl id):=by
 unfold HX at h
 split at h
 ·injection h with h;rw [h]
 ·cases h
def kr (st:Ag T) (E:Nat):DV T→Option (List (T.den E))
 | .c x=>match HX x with
   | some id=>match Db st id with
     | some ⟨E',l⟩=>Gv false (.lst E) (.k (.lst E') l)
     | none=>none
   | none=>Gv false (.lst E) x
 | _=>none
def VP (P:Program) (st:Ag T) (d:Nat) (t:TypeId) (u x:DV T):M (Ag T):=
 match u,D8 P t with
 | .c (.c (.osl id)),some (E',n,by')=>match Db st id with
   | some ⟨E,l⟩=>match kr st E x with
     | some m=>mIf (Nat.beq E' E&&(Nat.beq n (T.sz E)&&Nat.blt 0 n)) (.opt (EW by' l m) fun r=>match st.new id (.row E r)with
       | some s=> .ret (s.put (some d) (.c (.c (.osl id))))
       | none=> .no)
     | none=> .no
   | none=> .no
 | _,_=> .no
def cj (P:Program) (st:Ag T) (o:Oper):M (Ag T):=
 match o.op with
 | .store t x y=>match st.arg [] x,st.arg [] y with
   | some p,some v=>Zg P t o.dst st p (XB y v)
   | _,_=> .no
 | op=>match o.dst with
   | none=> .no
   | some d=>match op with
     | .alloc t=>match Q8 P t with
       | some cs=>Ht st d (.box cs) fun i=> .c (.ptr i 0)
       | none=> .no
     | .box _ x=>match st.arg [] x with
       | some v=>match v.cells with
         | some cs=>Ht st d (.box cs) fun i=> .c (.ptr i 0)
         | none=> .no
       | none=> .no
     | .assign (.const (.slice none 0 0))=>match CZ P o.type with
       | some (E,n)=>mIf (Nat.beq n (T.sz E)) (Ht st d (.row E []) fun i=> .c (.osl i))
       | none=> .no
     | .buildSlice t len ps=>J8 P st d t len ps.toList
     | .makeSlice t l c=>match st.arg [] l,st.arg [] c with
       | some (.c (.k (.int _) l)),some (.c (.k (.int _) c))=>LE P st d t l c
       | _,_=> .no
     | .call c=>match c.callee,c.args.toList,c.argTypes.toList with
       | .builtin .append,[u,x],[t,t']=>match st.arg [] u,st.arg [] x with
         | some a,some b=>mIf (Nat.beq t t') (VP P st d t a b)
         | _,_=> .no
       | _,_,_=> .no
     | _=> .no
def Ef (H:At T) (P:Program) (st:Ag T) (o:Oper) (st':Ag T):Prop:=
 (∃ H',Nx H st H' st')∧(ef P st.toSt o).1∧Ck (ef P st.toSt o).2 st'.toSt∧st'.pre=st.pre
section
variable {H:At T} {P:Program} {st:Ag T}
theorem Ag.put_spec {H:At T} {st s:Ag T} {H1:At T} (h:Nx H st H1 s) (d:Option Nat) {v:DV T} (hv:v.ok H1 s.nx): ∃ H',Nx H st H' (s.put d v):=by
 obtain⟨H2,h2⟩:=Ag.put_nx h.ok d hv
 exact⟨H2,h.trans h2⟩
theorem AL (s:Ag T) (d:Option Nat) (v:DV T):(s.put d v).pre =s.pre:=by cases d<;>rfl
theorem F7 {d:Nat} {x:DX T} {v:Ah→DC T} (hw:AB H st) (hx:x.ok) (hv: ∀ i,(v i).ok):
 Yl (Ht st d x v) (fun st'=>(∃ H',Nx H st H' st')∧Ck ((st.toSt.new (⟨d::st.pre,0,x⟩:DE T).toE).put (some d) (.c (v (d::st.pre)).toC)) st'.toSt∧st'.pre=st.pre):=by
 unfold Ht
 split
 ·rename_i s hs
  obtain⟨⟨H',hN⟩,h2,h3⟩:=Ag.new_spec hw hx hs
  refine Yl.ret ⟨Ag.put_spec hN _ (by simp only [DV.ok];exact hv _),?_,by rw [AL];exact h3⟩
  rw [Ag.put_toSt]
  exact h2.put _ _
 ·exact Yl.no
theorem XD {v:DV T} {id:Ah} {off:Nat} {e:As} (he:st.toSt.look id=some e) (hr:e.row.isSome=true):Pl st.toSt (.c (.ptr id off)) v.toV=(Zf v).toV :=by
 unfold Zf
 split
 ·simp only [DV.toV,DC.toC,Pl,he]
  cases hx:e.row with
  | none=>rw [hx]at hr;cases hr
  | some x=>rfl
 ·rename_i hne
  unfold Pl
  split
  ·rename_i hv
   exfalso
   cases v with
   | c x=>
     cases x with
     | c y=>
       simp only [DV.toV,DC.toC,V.c.injEq]at hv
       subst hv;exact hne rfl
     | k kd x=>cases kd<;>simp [DV.toV,DC.toC,Bd]at hv
     | clo b f cs=>cases b<;>simp [DV.toV,DC.toC]at hv
     | _=>simp [DV.toV,DC.toC]at hv
   | _=>simp [DV.toV]at hv
  ·rfl
theorem XE {v:V} {id:Ah} {off:Nat} {e:As} (he:st.toSt.look id=some e) (hr:e.row=none):Pl st.toSt (.c (.ptr id off)) v=v:=by
 unfold Pl
 split
 ·simp only [he,hr]
 ·rfl
theorem UM {E:Nat} {x x':T.den E} {off:Nat} {cs:List (DC T)} (h:gV E x off cs=some x'):off+cs.length≤T.sz E∧(T.enc E x).take off++(Aq cs++(T.enc E x).drop (off+(Aq cs).length))=T.enc E x':=by
 unfold gV at h
 split at h
 ·rename_i hb
  refine⟨by simpa using hb,?_⟩
  rw [←(F2 h).2 rfl,BQ,BQ,GQ,EM,E3,Ax]
 ·cases h
theorem Zh {l:List C} {a b c:List C} (h:a++(b++c)=l) (hl:Ao l=true):Ao b=true:=by
 subst h
 rw [Bk,Bk]at hl
 simp only [Bool.and_eq_true]at hl
 exact hl.2.1
theorem ck (hw:AB H st) {t:TypeId} {d:Option Nat} {p v:DV T} (hv:v.ok H st.nx):
 Yl (Zg P t d st p v) (fun st'=>(∃ H',Nx H st H' st')∧(Fs P st.toSt t p.toV (Pl st.toSt p.toV v.toV)).1∧(Fs P st.toSt t p.toV (Pl st.toSt p.toV v.toV)).2.put d .undef =st'.toSt∧st'.pre=st.pre):=by
 unfold Zg
 split
 ·exact Yl.no
 ·rename_i ag n ht
  split
  ·rename_i id off
   split
   ·rename_i ds cs hb hc
    refine Yl.mIf fun hg=>Yl.ret ?_
    simp only [Bool.and_eq_true,Nat.beq_eq,Nat.ble_eq]at hg
    obtain⟨hl,_,e,h1,h2,h3⟩:=Fw hb
    obtain⟨c1,c2⟩:=DV.cells_spec hc
    have hds:=Mu hw hb
    have hok:(DX.box (ds.take off++(cs++ds.drop (off+n)))).ok :=CF (KB hds _) (CF (c2 hv) (KC hds _))
    obtain⟨H1,hN⟩:=Ag.setX_nx hw id hok
    refine⟨Ag.put_spec hN _ (by simp only [DV.ok]),?_⟩
    simp only [DV.toV,DC.toC]
    rw [XE hl rfl]
    simp only [Fs,c1,ht,hl]
    refine⟨⟨by rw [Ax];exact hg.1,by rw [Ax];exact hg.2⟩,?_,by rw [AL];rfl⟩
    rw [Ag.put_toSt,Ag.setX_toSt hw h1 h2 (cs:=(Aq ds).take off++Aq cs++(Aq ds).drop (off+(Aq cs).length)) (q:=Ao (Aq cs))]
    ·simp only [DV.toV]
    ·rw [DE.toE_box h3]
     simp only [DE.toE,As.mk.injEq,Bool.false_and,and_true,true_and]
     rw [BQ,BQ,GQ,EM,List.append_assoc,Ax,hg.1]
   ·exact Yl.no
  ·rename_i id N i off
   split
   ·rename_i E l cs hr hc
    refine Yl.mIf fun hg=>Yl.opt fun x hx=>?_
    simp only [Bool.and_eq_true,Nat.beq_eq]at hg
    obtain⟨hN,hcs⟩:=hg
    subst hN
    split
    ·rename_i x' hp
     obtain⟨p1,p2⟩:=UM hp
     obtain⟨hl,_,e,h1,h2,h3⟩:=BF hr
     obtain⟨c1,c2⟩:=DV.cells_spec hc
     obtain⟨s1,s2⟩:=dR (l:=l) (l':=l.set i.toNat x') (i:=i) (x:=x) (x':=x') (e:=T.enc E) (N:=T.sz E) (o:=off) (base:=0) (cs:=Aq cs) (pre:=[]) (post:=[]) (off:=i.toNat*T.sz E+off) (c0:=l.flatMap (T.enc E)) (c1:=(l.set i.toNat x').flatMap (T.enc E)) (by simp) rfl (by simp) rfl hx (fun y=>AD E y) (by omega) (by rw [Ax];exact p1) p2
     obtain⟨H1,hN⟩:=Ag.setX_nx hw id (x:= .row E (l.set i.toNat x')) trivial
     refine Yl.ret ⟨Ag.put_spec hN _ (by simp only [DV.ok]),?_⟩
     simp only [DV.toV,DC.toC]
     rw [XD hl rfl]
     simp only [Fs,c1,ht,hl]
     refine⟨⟨by rw [Ax];exact hcs,by rw [Ax,hcs]at s1;exact s1⟩,?_,by rw [AL];rfl⟩
     rw [s2,Ag.put_toSt,Ag.setX_toSt hw h1 h2 (cs:=(l.set i.toNat x').flatMap (T.enc E)) (q:=Ao (Aq cs))]
     ·simp only [DV.toV]
     ·rw [DE.toE_row h3]
      have:Ao (Aq cs)=true:=Zh p2 (Q1 E x')
      simp only [DE.toE,this,List.length_set,Bool.and_self]
    ·exact Yl.no
   ·exact Yl.no
  ·rename_i id base m E i off
   split
   ·rename_i ds cs hb hc
    split
    ·rename_i l hdr
     refine Yl.mIf fun hg=>Yl.opt fun x hx=>?_
     simp only [Bool.and_eq_true,Nat.beq_eq,Nat.ble_eq]at hg
     split
     ·rename_i x' hp
      obtain⟨p1,p2⟩:=UM hp
      obtain⟨hl,_,e,h1,h2,h3⟩:=Fw hb
      obtain⟨c1,c2⟩:=DV.cells_spec hc
      obtain⟨hlen,r,hr⟩:=Dt hdr
      rw [EM]at hr
      have hfl:(l.flatMap (T.enc E)).length =m*T.sz E:=by rw [Bo (fun y=>AD E y),hlen]
      have hpost:r=(Aq ds).drop (base+m*T.sz E):=by
       rw [←List.drop_drop,hr, ←hfl,List.drop_left]
      have hs:OQ i.toNat x' 0 l=l.set i.toNat x':=by rw [XC l 0 (Nat.zero_le _)];rfl
      have hle:base≤(Aq ds).length :=by rw [Ax];omega
      obtain⟨s1,s2⟩:=dR (l:=l) (l':=l.set i.toNat x') (i:=i) (x:=x) (x':=x') (e:=T.enc E) (N:=T.sz E) (o:=off) (base:=base) (cs:=Aq cs) (pre:=(Aq ds).take base) (post:=r) (off:=base+i.toNat*T.sz E+off) (c0:=Aq ds) (c1:=(Aq ds).take base++((l.set i.toNat x').flatMap (T.enc E)++r))
       (by rw [←hr,List.take_append_drop]) (by rw [List.length_take];omega) rfl rfl hx (fun y=>AD E y) (by omega) (by rw [Ax];exact p1) p2
      have hds:=Mu hw hb
      have hok:(DX.box (ds.take base++(J6 E (OQ i.toNat x' 0 l)++ds.drop (base+m*T.sz E)))).ok :=CF (KB hds _) (CF (UL _ _) (KC hds _))
      obtain⟨H1,hN⟩:=Ag.setX_nx hw id hok
      refine Yl.ret ⟨Ag.put_spec hN _ (by simp only [DV.ok]),?_⟩
      simp only [DV.toV,DC.toC]
      rw [XE hl rfl]
      simp only [Fs,c1,ht,hl]
      refine⟨⟨by rw [Ax];exact hg.1,by rw [Ax,hg.1]at s1;exact s1⟩,?_,by rw [AL];rfl⟩
      rw [s2,Ag.put_toSt,Ag.setX_toSt hw h1 h2 (cs:=(Aq ds).take base++((l.set i.toNat x').flatMap (T.enc E)++r)) (q:=Ao (Aq cs))]
      ·simp only [DV.toV]
      ·rw [DE.toE_box h3]
       simp only [DE.toE,As.mk.injEq,Bool.false_and,and_true,true_and]
       rw [BQ,BQ,GQ,EM,OR,hs,hpost]
     ·exact Yl.no
    ·exact Yl.no
   ·exact Yl.no
  ·exact Yl.no
end
end Go.PL
namespace Go.PL
open Go Go.RowKit
variable {T:Be}
section
variable {H:At T} {P:Program} {st:Ag T}
theorem Hv (hw:AB H st) {x:Operand} {v:DV T} (h:st.arg [] x=some v):v.ok H st.nx∧(st.toSt.arg true x).1∧(st.toSt.arg true x).2=v.toV:=
 Ag.arg_spec (key:=[]) hw (fun _ hl=>by cases hl) h rfl
theorem F8 {t:TypeId} {cs:List (DC T)} (h:LD P t=some cs):K0 P t=some (Aq cs)∧BU cs:=by
 unfold LD at h
 unfold K0
 split at h
 ·rename_i i hi
  split at h
  ·rename_i z hz
   simp only [hi,hz]
   exact J0 h
  ·cases h
 ·cases h
theorem MA {α:Type} (f:α→List (DC T)): ∀ l:List α,Aq (l.flatMap f)=l.flatMap (fun x=>Aq (f x))
 | []=>by simp [Aq]
 | a::l=>by rw [List.flatMap_cons,BQ,MA f l,List.flatMap_cons]
theorem LF (z:List (DC T)) (hz:0<z.length) (n:Nat):Aq ((List.replicate n z).flatMap id)=B0 (Aq z) n:=by
 rw [MA,Ux (fun x:List (DC T)=>Aq x) z rfl (by rw [Ax];exact hz)]
 rfl
theorem LG (c:DC T):(Rn c).toC =Fk c.toC:=by
 unfold Rn
 split
 ·rfl
 ·rename_i hne
  cases c with
  | c x=>
    cases x with
    | nils=>exact(hne rfl).elim
    | _=>rfl
  | k kd x=>cases kd<;>rfl
  | clo b f cs=>cases b<;>simp [DC.toC,Fk]
  | _=>simp [DC.toC,Fk]
theorem Zi (v:DV T):(J7 v).toV =v.toV.weak:=by
 cases v with
 | c x=>simp only [J7,DV.toV,V.weak,LG]
 | agg cs=>
   simp only [J7,DV.toV,V.weak,BK,List.map_map]
   congr 1
   exact List.map_congr_left fun c _=>LG c
 | _=>simp only [J7,DV.toV,V.weak]
theorem Ro (vs:List (Nat×DV T)):ey (vs.map fun x=>(x.1,J7 x.2))=(ey vs).map Ol:=by
 simp only [ey,List.map_map]
 refine List.map_congr_left fun x _=>?_
 simp only [Function.comp,Ol,Zi]
theorem Rq (hw:AB H st) {d:Nat} {t:TypeId} {len:Nat} {ps:List (Nat×Operand)}:
 Yl (J8 P st d t len ps) (fun st'=>(∃ H',Nx H st H' st')∧(Bh P st.toSt d t len ps).1∧Ck (Bh P st.toSt d t len ps).2 st'.toSt∧st'.pre=st.pre):=by
 unfold J8
 split
 ·rename_i E n by' vs hs hp
  split
  ·rename_i z hz
   split
   ·rename_i cs hf
    split
    ·rename_i l hl
     refine Yl.mIf fun hg=>(F7 hw (x:= .row E l) (by exact trivial) (fun _=>by simp only [DC.ok])).mono fun st' h=>?_
     simp only [Bool.and_eq_true,Nat.beq_eq,Nat.blt_eq,Nat.ble_eq]at hg
     obtain⟨g1,g2,g3,g4,g5⟩:=hg
     subst g1
     obtain⟨h1,h2,h3⟩:=h
     obtain⟨p1,p2,p3⟩:=F5 (key:=[]) hw (fun _ hl=>by cases hl) rfl hp
     obtain⟨z1,z2⟩:=F8 hz
     obtain⟨f1,_⟩:=Hr hf
     rw [LF z (by omega),Ro]at f1
     obtain⟨hlen,r,hr⟩:=Dt hl
     have hrn:r=[]:=by
      have:=congrArg List.length hr
      rw [Ax,g5,List.length_append,Bo (fun y=>AD E y),hlen]at this
      exact List.length_eq_zero_iff.1 (by omega)
     subst hrn
     rw [List.append_nil]at hr
     refine⟨h1,?_⟩
     change (st.toSt.parts true ps).1 at p2
     change (st.toSt.parts true ps).2=ey vs at p3
     simp only [Bh,hs,z1,p3,f1]
     refine⟨⟨p2,by rw [Ax];exact g2,g3,g4⟩,?_,h3⟩
     rw [hr,cd]
     simp only [DE.toE,hlen,DC.toC]at h2
     exact h2
    ·exact Yl.no
   ·exact Yl.no
  ·exact Yl.no
 ·exact Yl.no
theorem TA (hw:AB H st) {d:Nat} {t:TypeId} {l c:Int} {k k':IntKind}:
 Yl (LE P st d t l c) (fun st'=>(∃ H',Nx H st H' st')∧(HQ P st.toSt d t (.c (.int k l)) (.c (.int k' c))).1∧Ck (HQ P st.toSt d t (.c (.int k l)) (.c (.int k' c))).2 st'.toSt∧st'.pre=st.pre):=by
 unfold LE
 split
 ·rename_i E n by' hs
  split
  ·rename_i z hz
   split
   ·rename_i x hx
    refine Yl.mIf fun hg=>Yl.opt fun u hu=>(F7 hw (x:= .row E (List.replicate l.toNat x)) (by exact trivial) (fun _=>by simp only [DC.ok])).mono fun st' h=>?_
    simp only [Bool.and_eq_true,Nat.beq_eq,Nat.blt_eq]at hg
    obtain⟨g1,g2,g3⟩:=hg
    subst g1
    obtain⟨h1,h2,h3⟩:=h
    obtain⟨z1,z2⟩:=F8 hz
    obtain⟨n1,n2,n3,n4⟩:=CQ hu
    refine⟨h1,?_⟩
    simp only [HQ,hs,z1]
    refine⟨⟨n1,n2,n3,n4,by rw [Ax];exact g2,g3⟩,?_,h3⟩
    have hzx:=(F2 hx).2 rfl
    have:=Ux (T.enc E) x hzx (by rw [Ax];omega) l.toNat
    rw [this]
    simp only [DE.toE,List.length_replicate,DC.toC]at h2
    exact h2
   ·exact Yl.no
  ·exact Yl.no
 ·exact Yl.no
theorem cl {E:Nat} {x:DV T} {m:List (T.den E)} (h:kr st E x=some m):Mh st.toSt (T.sz E) x.toV=some (m.length,m.flatMap (T.enc E),true):=by
 have hl: ∀ {E':Nat} {l:List (T.den E')} {m:List (T.den E)},Gv (T:=T) false (.lst E) (.k (.lst E') l)=some m→(C.sl l.length (l.flatMap (T.enc E'))=C.sl m.length (m.flatMap (T.enc E)))∧T.sz E'=T.sz E∧l.length=m.length:=by
  intro E' l m hc
  unfold Gv at hc
  simp only at hc
  split at hc
  ·rename_i e _
   subst e
   injection hc with hc
   subst hc
   exact⟨rfl,rfl,rfl⟩
  ·cases hc
 unfold kr at h
 split at h
 ·rename_i y
  split at h
  ·rename_i id ho
   have:=Dy ho
   subst this
   split at h
   ·rename_i E' l hr
    obtain⟨a,b,c⟩:=hl h
    injection a with a1 a2
    simp only [DV.toV,DC.toC,Mh,(BF hr).1,b,if_true]
    rw [a1,a2]
   ·cases h
  ·have:=(Co h).2 rfl
   simp only [Bd]at this
   simp only [DV.toV,this,Mh]
   rw [if_pos (Bo (fun y=>AD E y) m)]
 ·cases h
theorem Zj (hw:AB H st) {d:Nat} {t:TypeId} {u x:DV T}:
 Yl (VP P st d t u x) (fun st'=>(∃ H',Nx H st H' st')∧(EY P st.toSt d t u.toV x.toV).1∧Ck (EY P st.toSt d t u.toV x.toV).2 st'.toSt∧st'.pre=st.pre):=by
 unfold VP
 split
 ·rename_i id E' n by' hs
  split
  ·rename_i E l hr
   split
   ·rename_i m hm
    refine Yl.mIf fun hg=>Yl.opt fun r hra=>?_
    simp only [Bool.and_eq_true,Nat.beq_eq,Nat.blt_eq]at hg
    obtain⟨g1,g2,g3⟩:=hg
    subst g1 g2
    split
    ·rename_i s hn
     obtain⟨⟨H',hN⟩,h2,h3⟩:=Ag.new_spec hw (x:= .row E' r) trivial hn
     refine Yl.ret ⟨Ag.put_spec hN _ (by simp only [DV.ok,DC.ok]),?_⟩
     have hb:=IC hra
     have hx:=dO hra
     simp only [DV.toV,DC.toC,EY,hs,(BF hr).1,cl hm,true_and]
     refine⟨⟨g3,hb.1,hb.2⟩,?_,by rw [AL];exact h3⟩
     rw [Ag.put_toSt]
     simp only [DE.toE,hx,List.length_append,List.flatMap_append]at h2
     simp only [DV.toV,DC.toC,Bool.and_self]
     exact h2.put _ _
    ·exact Yl.no
   ·exact Yl.no
  ·exact Yl.no
 ·exact Yl.no
theorem P4 (hw:AB H st) (o:Oper):Yl (cj P st o) (Ef H P st o):=by
 have A: ∀ {x:Operand} {v:DV T},st.arg [] x=some v→v.ok H st.nx∧(st.toSt.arg true x).1∧(st.toSt.arg true x).2=v.toV:=fun h=>Hv hw h
 obtain⟨dst,op,ty,pos,aft,gd⟩:=o
 unfold cj
 simp only
 split
 ·rename_i t x y
  split
  ·rename_i p v hp hv
   obtain⟨a1,a2,a3⟩:=A hp
   obtain⟨b1,b2,b3⟩:=A hv
   have e:(XB y v).toV =YG y v.toV:=by
    unfold XB YG
    split<;>simp_all [DV.toV,DC.toC]
   have hok:(XB y v).ok H st.nx:=by
    unfold XB
    split
    ·simp only [DV.ok,DC.ok]
    ·exact b1
   refine(ck hw hok).mono fun st' h=>?_
   obtain⟨h1,h2,h3,h4⟩:=h
   refine⟨h1,?_,?_,h4⟩
   ·simp only [PL.ef,a3,b3, ←e];exact⟨a2,b2,h2⟩
   ·simp only [PL.ef,a3,b3, ←e];rw [h3];exact Ck.refl _
  ·exact Yl.no
 ·rename_i hns
  split
  ·exact Yl.no
  ·rename_i d
   split
   ·rename_i t
    split
    ·rename_i cs hz
     obtain⟨z1,z2⟩:=J2 hz
     refine(F7 hw (x:= .box cs) z2 (fun _=>by simp only [DC.ok])).mono fun st' h=>?_
     obtain⟨h1,h2,h3⟩:=h
     refine⟨h1,?_,?_,h3⟩
     ·simp only [PL.ef,z1]
     ·simp only [PL.ef,z1];simp only [DE.toE,DC.toC]at h2;exact h2
    ·exact Yl.no
   ·rename_i t x
    split
    ·rename_i v hv
     split
     ·rename_i cs hc
      obtain⟨b1,b2,b3⟩:=A hv
      obtain⟨c1,c2⟩:=DV.cells_spec hc
      refine(F7 hw (x:= .box cs) (c2 b1) (fun _=>by simp only [DC.ok])).mono fun st' h=>?_
      obtain⟨h1,h2,h3⟩:=h
      refine⟨h1,?_,?_,h3⟩
      ·simp only [PL.ef,b3,c1];exact⟨b2,trivial⟩
      ·simp only [PL.ef,b3,c1];simp only [DE.toE,DC.toC]at h2;exact h2
     ·exact Yl.no
    ·exact Yl.no
   ·split
    ·rename_i E n hs
     refine Yl.mIf fun hg=>(F7 hw (x:= .row E []) (by exact trivial) (fun _=>by simp only [DC.ok])).mono fun st' h=>?_
     have hg:=Nat.eq_of_beq_eq_true hg
     subst hg
     obtain⟨h1,h2,h3⟩:=h
     refine⟨h1,?_,?_,h3⟩
     ·simp only [PL.ef,hs]
     ·simp only [PL.ef,hs];simp only [DE.toE,DC.toC,List.length_nil,List.flatMap_nil]at h2;exact h2
    ·exact Yl.no
   ·rename_i t len ps
    refine(Rq hw).mono fun st' h=>?_
    obtain⟨h1,h2,h3,h4⟩:=h
    exact⟨h1,by simpa only [PL.ef] using h2,by simpa only [PL.ef] using h3,h4⟩
   ·rename_i t l c
    split
    ·rename_i k l' k' c' hl hc
     obtain⟨a1,a2,a3⟩:=A hl
     obtain⟨b1,b2,b3⟩:=A hc
     simp only [DV.toV,DC.toC,Bd]at a3 b3
     refine(TA hw (k:=k) (k':=k')).mono fun st' h=>?_
     obtain⟨h1,h2,h3,h4⟩:=h
     refine⟨h1,?_,?_,h4⟩
     ·simp only [PL.ef,a3,b3];exact⟨a2,b2,h2⟩
     ·simp only [PL.ef,a3,b3];exact h3
    ·exact Yl.no
   ·rename_i c
    split
    ·rename_i u x t t' hcal hargs htys
     split
     ·rename_i a b ha hb
      obtain⟨a1,a2,a3⟩:=A ha
      obtain⟨b1,b2,b3⟩:=A hb
      refine Yl.mIf fun hg=>(Zj hw).mono fun st' h=>?_
      have hg:=Nat.eq_of_beq_eq_true hg
      obtain⟨h1,h2,h3,h4⟩:=h
      refine⟨h1,?_,?_,h4⟩
      ·simp only [PL.ef,hcal,hargs,htys,a3,b3];exact⟨a2,b2,hg,h2⟩
      ·simp only [PL.ef,hcal,hargs,htys,a3,b3];exact h3
     ·exact Yl.no
    ·exact Yl.no
   ·exact Yl.no
end
end Go.PL
namespace Go.PL
open Go Go.RowKit
structure OE where
 dp:Bool
 E:TypeId
 n:Nat
 len:Nat
 cs:List C
def OE.ent (o:OE) (id:Ah):As:=⟨id,some (o.E,o.n,o.len),o.cs,true⟩
def Cr:List OE→List Ah→List As
 | o::os,i::is=>o.ent i::Cr os is
 | _,_=>[]
def HH:List OE→List Ah→Bool
 | [],[]=>true
 | o::os,i::is=>(Ed i==o.dp&& !CJ i)&&HH os is
 | _,_=>false
inductive PC where
 | c (x:C)
 | o (j:Nat)
def PC.toC (ids:List Ah):PC→C
 | .c x=>x
 | .o j=> .osl (ids.getD j [])
inductive PP where
 | c (x:PC)
 | a (cs:List PC)
def PP.toV (ids:List Ah):PP→V
 | .c x=> .c (x.toC ids)
 | .a cs=> .agg (cs.map (PC.toC ids))
def JH (ids:List Ah):List PP→V
 | [p]=>p.toV ids
 | ps=> .tup (ps.map (PP.toV ids))
def PC.ok (m:Nat):PC→Bool
 | .c x=>x.pure
 | .o j=>Nat.blt j m
def PP.ok (m:Nat):PP→Bool
 | .c x=>x.ok m
 | .a cs=>cs.all (PC.ok m)
structure Je (P:Program) (I:World→Prop) (f:FuncId) (args:List V) (outs:List OE) (ps:List PP):Prop where
 ent:ent P f=true
 pok:ps.all (PP.ok outs.length)=true
 run: ∀ (w:World) (vs:Array Value) (av:Nat→Prop),I w→(∀ b,av b→b<w.heap.size)→Ap w (im av) args vs.toList→
  Calls P f vs w (fun e w'=> ∃ v ids G',e= .returned v∧HH outs ids=true∧ids.Nodup∧Ab w' G' (JH ids ps) v∧
   (∀ e∈Cr outs ids,AX w' G' e∧Bi w' G' e∧Ao e.cs=true)∧(∀ i j b,G'.blk i=some b→G'.blk j=some b→i=j)∧
   (∀ i b,G'.blk i=some b→w.heap.size≤b∧b<w'.heap.size)∧(∀ b,G'.wr b↔av b∨ ∃ i,G'.blk i=some b)∧Below w.heap.size w w')
def ov (o i:Ah):Ah:=match i with
 | _::k::_=>BH k o
 | _=>o
def Ik:List Ah→List Ah→Ah→Option Ah
 | n::ns,o::os,i=>if i=n then some o else if Dm n i=true then some (ov o i)else Ik ns os i
 | _,_,_=>none
def Iq (ns:List Ah) (i:Ah):Bool:=ns.any fun n=>i==n||Dm n i
theorem kt (o n:Ah) (k:Nat):ov o (BH k n)=BH k o:=rfl
theorem cm {ns os:List Ah} {i:Ah} (hl:ns.length=os.length) (h:Iq ns i=false):Ik ns os i=none:=by
 induction ns generalizing os with
 | nil=>rfl
 | cons n ns ih=>
   cases os with
   | nil=>rfl
   | cons o os=>
     simp only [Iq,List.any_cons,Bool.or_eq_false_iff,beq_eq_false_iff_ne]at h
     simp only [Ik]
     rw [if_neg h.1.1,if_neg (by rw [h.1.2];simp)]
     exact ih (by simpa using hl) h.2
theorem XF {ns os:List Ah} {i a:Ah} (h:Ik ns os i=some a): ∃ (j:Nat) (n o:Ah),ns[j]? =some n∧os[j]? =some o∧(i=n∧a=o∨ ∃ k,i=BH k n∧a=BH k o):=by
 induction ns generalizing os with
 | nil=>simp [Ik]at h
 | cons n ns ih=>
   cases os with
   | nil=>simp [Ik]at h
   | cons o os=>
     simp only [Ik]at h
     split at h
     ·rename_i he
      injection h with h
      exact⟨0,n,o,rfl,rfl, .inl ⟨he,h.symm⟩⟩
     ·split at h
      ·rename_i he
       obtain⟨k,rfl⟩:=ao he
       injection h with h
       exact⟨0,n,o,rfl,rfl, .inr ⟨k,rfl,h.symm⟩⟩
      ·obtain⟨j,n',o',h1,h2,h3⟩:=ih h
       exact⟨j+1,n',o',h1,h2,h3⟩
theorem gW {ns os:List Ah} {j:Nat} {n o:Ah} (hn:ns.Nodup) (hmk: ∀ n∈ns,CJ n=false) (h1:ns[j]? =some n) (h2:os[j]? =some o):Ik ns os n=some o∧ ∀ k,Ik ns os (BH k n)=some (BH k o):=by
 induction ns generalizing os j with
 | nil=>simp at h1
 | cons m ns ih=>
   cases os with
   | nil=>simp at h2
   | cons q os=>
     simp only [List.nodup_cons]at hn
     cases j with
     | zero=>
       simp only [List.getElem?_cons_zero,Option.some.injEq]at h1 h2
       subst h1 h2
       refine⟨by simp [Ik],fun k=>?_⟩
       simp only [Ik]
       rw [if_neg (fun e=>by have:=hmk m (by simp);rw [←e]at this;cases this),if_pos (by rw [Hh];simp),kt]
     | succ j=>
       simp only [List.getElem?_cons_succ]at h1 h2
       have hm:n∈ns:=List.mem_of_getElem? h1
       have hne:n ≠ m:=fun e=>hn.1 (e▸hm)
       obtain⟨a,b⟩:=ih hn.2 (fun x hx=>hmk x (by simp [hx])) h1 h2
       have hmn:=hmk n (by simp [hm])
       refine⟨?_,fun k=>?_⟩
       ·simp only [Ik]
        rw [if_neg hne,if_neg (fun e=>by obtain⟨k,rfl⟩:=ao e;cases hmn)]
        exact a
       ·simp only [Ik]
        rw [if_neg (fun e=>by have:=hmk m (by simp);rw [←e]at this;cases this),if_neg (fun e=>by rw [Hh]at e;exact hne (by simpa using e))]
        exact b k
theorem ku {α:Type} {l:List α} (h:l.Nodup) {i j:Nat} {x:α} (hi:l[i]? =some x) (hj:l[j]? =some x):i=j:=by
 obtain⟨a1,a2⟩:=List.getElem?_eq_some_iff.1 hi
 obtain⟨b1,b2⟩:=List.getElem?_eq_some_iff.1 hj
 rcases Nat.lt_trichotomy i j with z | z | z
 ·exact absurd (a2.trans b2.symm) (List.pairwise_iff_getElem.1 h i j a1 b1 z)
 ·exact z
 ·exact absurd (b2.trans a2.symm) (List.pairwise_iff_getElem.1 h j i b1 a1 z)
theorem eC {ns os:List Ah} {i j a:Ah} (hn:ns.Nodup) (ho:os.Nodup) (hmo: ∀ o∈os,CJ o=false) (h1:Ik ns os i=some a) (h2:Ik ns os j=some a):i=j:=by
 obtain⟨p,n,o,a1,a2,a3⟩:=XF h1
 obtain⟨q,n',o',b1,b2,b3⟩:=XF h2
 have key:o=o'→p=q:=fun e=>by
  subst e
  exact ku ho a2 b2
 have m1:=hmo o (List.mem_of_getElem? a2)
 have m2:=hmo o' (List.mem_of_getElem? b2)
 rcases a3 with ⟨rfl,rfl⟩ | ⟨k,rfl,rfl⟩<;>rcases b3 with ⟨rfl,e⟩ | ⟨k',rfl,e⟩
 ·have:=key e;subst this;rw [a1]at b1;injection b1
 ·rw [e]at m1;cases m1
 ·rw [←e]at m2;cases m2
 ·obtain⟨e1,e2⟩:=L8 e
  subst e1
  have:=key e2;subst this
  rw [a1]at b1;injection b1 with b1;rw [b1]
theorem GT: ∀ {outs:List OE} {ids:List Ah},HH outs ids=true→ids.length=outs.length∧(∀ i∈ids,CJ i=false)∧ ∀ (j:Nat) (o:OE) (i:Ah),outs[j]? =some o→ids[j]? =some i→Ed i=o.dp
 | [],[],_=>⟨rfl,fun _ h=>by simp at h,fun _ _ _ h=>by simp at h⟩
 | [],_::_,h=>by simp [HH]at h
 | _::_,[],h=>by simp [HH]at h
 | o::os,i::is,h=>by
   simp only [HH,Bool.and_eq_true,beq_iff_eq,Bool.not_eq_true']at h
   obtain⟨a,b,c⟩:=GT h.2
   refine⟨by simp [a],fun x hx=>?_,fun j o' i' h1 h2=>?_⟩
   ·rcases List.mem_cons.1 hx with rfl | hx
    ·exact h.1.2
    ·exact b x hx
   ·cases j with
    | zero=>simp only [List.getElem?_cons_zero,Option.some.injEq]at h1 h2;subst h1 h2;exact h.1.1
    | succ j=>exact c j o' i' (by simpa using h1) (by simpa using h2)
theorem Nt: ∀ {outs:List OE} {ids:List Ah} {e:As},e∈Cr outs ids→ ∃ (j:Nat) (o:OE) (i:Ah),outs[j]? =some o∧ids[j]? =some i∧e=o.ent i
 | [],_,_,h=>by simp [Cr]at h
 | _::_,[],_,h=>by simp [Cr]at h
 | o::os,i::is,e,h=>by
   simp only [Cr,List.mem_cons]at h
   rcases h with rfl | h
   ·exact⟨0,o,i,rfl,rfl,rfl⟩
   ·obtain⟨j,o',i',a,b,c⟩:=Nt h
    exact⟨j+1,o',i',by simpa using a,by simpa using b,c⟩
theorem Rr: ∀ {outs:List OE} {ids:List Ah} {j:Nat} {o:OE} {i:Ah},outs[j]? =some o→ids[j]? =some i→o.ent i∈Cr outs ids
 | [],_,_,_,_,h,_=>by simp at h
 | _::_,[],_,_,_,_,h=>by simp at h
 | o::os,i::is,0,o',i',h1,h2=>by
   simp only [List.getElem?_cons_zero,Option.some.injEq]at h1 h2;subst h1 h2;simp [Cr]
 | o::os,i::is,j+1,o',i',h1,h2=>by
   simp only [Cr,List.mem_cons]
   exact .inr (Rr (by simpa using h1) (by simpa using h2))
theorem UN: ∀ {outs:List OE} {ids:List Ah},ids.length=outs.length→(Cr outs ids).map (·.id)=ids
 | [],[],_=>rfl
 | [],_::_,h=>by simp at h
 | _::_,[],h=>by simp at h
 | o::os,i::is,h=>by simp only [Cr,List.map_cons,OE.ent,UN (outs:=os) (ids:=is) (by simpa using h)]
theorem B3.sub {G G':Ay} {w:World} (h: ∀ b,b<w.heap.size→G'.wr b→G.wr b):B3 G G' w w:=⟨Nat.le_refl _,fun _ _ _=>rfl,h,fun _ _ _ _=>BX.same rfl⟩
theorem jz {w:World} {G G':Ay} {ids ns:List Ah} {m:Nat} (hk:B3 G G' w w) (hl:ids.length=m) (ho: ∀ (j:Nat) (i n:Ah),ids[j]? =some i→ns[j]? =some n→G'.own n=G.own i) (hl2:ns.length=m) {p:PC} (hp:p.ok m=true) {v:Value} (h:Ad w G (p.toC ids) v):Ad w G' (p.toC ns) v:=by
 cases p with
 | c x=>exact Ad.mono hk x v (fun i hi=>absurd (show x.men i=true from hi) (by rw [FT i x hp];simp)) h
 | o j=>
   simp only [PC.ok,Nat.blt_eq]at hp
   simp only [PC.toC,Ad]at h ⊢
   have h1:ids[j]? =some (ids.getD j []):=by rw [List.getD_eq_getElem?_getD,List.getElem?_eq_getElem (by omega)];rfl
   have h2:ns[j]? =some (ns.getD j []):=by rw [List.getD_eq_getElem?_getD,List.getElem?_eq_getElem (by omega)];rfl
   rw [ho j _ _ h1 h2];exact h
theorem jA {w:World} {G G':Ay} {ids ns:List Ah} {m:Nat} (hk:B3 G G' w w) (hl:ids.length=m) (ho: ∀ (j:Nat) (i n:Ah),ids[j]? =some i→ns[j]? =some n→G'.own n=G.own i) (hl2:ns.length=m): ∀ {ps:List PC} {vs:List Value},ps.all (PC.ok m)=true→Ai w G (ps.map (PC.toC ids)) vs→Ai w G' (ps.map (PC.toC ns)) vs
 | [],[],_,_=>by simp [Ai]
 | [],_::_,_,h=>by simp [Ai]at h
 | _::_,[],_,h=>by simp [Ai]at h
 | p::ps,v::vs,hp,h=>by
   simp only [List.all_cons,Bool.and_eq_true]at hp
   simp only [List.map_cons,Ai]at h ⊢
   exact⟨jz hk hl ho hl2 hp.1 h.1,jA hk hl ho hl2 hp.2 h.2⟩
theorem jB {w:World} {G G':Ay} {ids ns:List Ah} {m:Nat} (hk:B3 G G' w w) (hl:ids.length=m) (ho: ∀ (j:Nat) (i n:Ah),ids[j]? =some i→ns[j]? =some n→G'.own n=G.own i) (hl2:ns.length=m) {p:PP} (hp:p.ok m=true) {v:Value} (h:Ab w G (p.toV ids) v):Ab w G' (p.toV ns) v:=by
 cases p with
 | c x=>simp only [PP.toV,Ab]at h ⊢;exact jz hk hl ho hl2 hp h
 | a cs=>
   simp only [PP.toV,Ab]at h ⊢
   obtain⟨arr,e,h⟩:=h
   exact⟨arr,e,jA hk hl ho hl2 hp h⟩
theorem Zk {w:World} {G G':Ay} {ids ns:List Ah} {m:Nat} (hk:B3 G G' w w) (hl:ids.length=m) (ho: ∀ (j:Nat) (i n:Ah),ids[j]? =some i→ns[j]? =some n→G'.own n=G.own i) (hl2:ns.length=m): ∀ {ps:List PP} {vs:List Value},ps.all (PP.ok m)=true→Ap w G (ps.map (PP.toV ids)) vs→Ap w G' (ps.map (PP.toV ns)) vs
 | [],vs,_,h=>by simpa [Ap] using h
 | p::ps,vs,hp,h=>by
   simp only [List.all_cons,Bool.and_eq_true]at hp
   simp only [List.map_cons,Ap]at h ⊢
   obtain⟨v,r,e,h1,h2⟩:=h
   exact⟨v,r,e,jB hk hl ho hl2 hp.1 h1,Zk hk hl ho hl2 hp.2 h2⟩
theorem kw {w:World} {G G':Ay} {ids ns:List Ah} {m:Nat} (hk:B3 G G' w w) (hl:ids.length=m) (ho: ∀ (j:Nat) (i n:Ah),ids[j]? =some i→ns[j]? =some n→G'.own n=G.own i) (hl2:ns.length=m) {ps:List PP} (hp:ps.all (PP.ok m)=true) {v:Value} (h:Ab w G (JH ids ps) v):Ab w G' (JH ns ps) v:=by
 match ps,hp,h with
 | [p],hp,h=>
   simp only [List.all_cons,List.all_nil,Bool.and_true]at hp
   exact jB hk hl ho hl2 hp h
 | [],hp,h=>
   simp only [JH,Ab]at h ⊢
   obtain⟨arr,e,h⟩:=h
   exact⟨arr,e,Zk (ps:=[]) hk hl ho hl2 hp h⟩
 | p::q::ps,hp,h=>
   simp only [JH,Ab]at h ⊢
   obtain⟨arr,e,h⟩:=h
   exact⟨arr,e,Zk (ps:=p::q::ps) hk hl ho hl2 hp h⟩
theorem aK {w:World} {G G':Ay} (hk:B3 G G' w w) {i n:Ah} {r:TypeId×Nat×Nat} {cs:List C} (hp:Ao cs=true) (hb:G'.blk n=G.blk i) (ho:G'.own n=G.own i) (h:AX w G ⟨i,some r,cs,true⟩):AX w G' ⟨n,some r,cs,true⟩:=by
 obtain⟨E,m,len⟩:=r
 unfold AX at *
 obtain⟨hl,v,h1,h2⟩:=h
 refine⟨hl,v,by rw [←h1];exact ho,?_⟩
 rcases h2 with ⟨p,e1,e2,e3⟩ | ⟨b,cap,cur,e1,e2,e3,e4,e5,e6,e7⟩
 ·exact .inl ⟨p,e1,e2,by rw [←e3];exact hb⟩
 ·exact .inr ⟨b,cap,cur,e1,by rw [←e2];exact hb,e3,e4,e5,e6,Ak.mono hk _ _ _ (fun i hi=>absurd (show BE i cs=true from hi) (by rw [AG i cs hp];simp)) (fun _=>rfl) e7⟩
end Go.PL
