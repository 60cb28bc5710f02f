/- The pure logic: PlYd, PlYe, PlYf, PlYg, Tj, Tk, Tl, Tm, Tn, To, Tt, Tu, Tu2, Tu3, Tu4, Tu5. -/
import Derived.Test.YthppcliidflkjaaGreatDoorPlPftoPlYc
import Derived.OrdersHeld
import Derived.Test.YthppcliidflkjaaGreatDoorPlRtoPlPe
set_option linter.all false
set_option linter.all false
namespace Go.PL
open Go Go.RowKit
mutual
theorem Si {p q:Ae→Bool} (h: ∀ i,q i=true→p i=true): ∀ c:C,c.menP p=false→c.menP q=false
 | .osl i,k=>by grind [C.menP]
 | .ptr i _,k=>by grind [C.menP]
 | .rsl i _ _ _,k=>by grind [C.menP]
 | .bsl i _ _,k=>by grind [C.menP]
 | .bld i _,k=>by grind [C.menP]
 | .mref i,k=>by grind [C.menP]
 | .clo _ cs,k=>by simp only [C.menP]at k ⊢;exact Du h cs k
 | .bmv _ cs,k=>by simp only [C.menP]at k ⊢;exact Du h cs k
 | .int ..,_=>rfl
 | .bool _,_=>rfl
 | .str _,_=>rfl
 | .sl ..,_=>rfl
 | .iptr ..,_=>rfl
 | .nilp,_=>rfl
 | .niface,_=>rfl
 | .nils,_=>rfl
 | .fn _,_=>rfl
 | .held,_=>rfl
 | .any,_=>rfl
 | .gptr ..,_=>rfl
 | .mp _,_=>rfl
 | .isl ..,_=>rfl
theorem Du {p q:Ae→Bool} (h: ∀ i,q i=true→p i=true): ∀ cs:List C,BF p cs=false→BF q cs=false
 | [],_=>rfl
 | c::cs,k=>by
   simp only [BF,Bool.or_eq_false_iff]at k ⊢
   exact⟨Si h c k.1,Du h cs k.2⟩
end
mutual
theorem Dv {p q:Ae→Bool} (h: ∀ i,q i=true→p i=true): ∀ v:V,v.menP p=false→v.menP q=false
 | .c x,k=>by grind [V.menP,Si]
 | .agg cs,k=>by grind [V.menP,Du]
 | .tup vs,k=>by simp only [V.menP]at k ⊢;exact Nb h vs k
 | .g _ v,k=>by simp only [V.menP]at k ⊢;exact Dv h v k
 | .undef,_=>by simp only [V.menP]
theorem Nb {p q:Ae→Bool} (h: ∀ i,q i=true→p i=true): ∀ vs:List V,Ig p vs=false→Ig q vs=false
 | [],_=>by simp only [Ig]
 | v::vs,k=>by
   simp only [Ig,Bool.or_eq_false_iff]at k ⊢
   exact⟨Dv h v k.1,Nb h vs k.2⟩
end
structure AR where
 k:Nat
 r:Ae
 E:TypeId
 n:Nat
 len:Nat
 cs:List C
def AR.ent (x:AR):Ak:=⟨x.r,some (x.E,x.n,x.len),x.cs,true⟩
def Fk (l:List C) (rs:List AR):List C:=rs.foldl (fun l x=>l.set x.k (.isl x.E x.n x.len x.cs)) l
structure Sk (p:Ae→Bool) (id:Ae) (ns:List Ae) (new:Ak) (A B:St):Prop where
 len:B.tm.length=A.tm.length
 tm: ∀ i,B.tm.getD i .undef = .undef ∨(B.tm.getD i .undef =A.tm.getD i .undef ∧(A.tm.getD i .undef).menP p=false)
 glen:B.gh.length=A.gh.length
 gh: ∀ i,B.gh.getD i .undef = .undef ∨(B.gh.getD i .undef =A.gh.getD i .undef ∧(A.gh.getD i .undef).menP p=false)
 so: ∀ x∈B.so,x=new∨x∈A.so∧x.id ≠ id∧x.id∉ns∧(x.pu=true∨BF p x.cs=false)
 nd:(B.so.map (·.id)).Nodup
 pre:B.pre=A.pre
section
variable {F:Fr} {a:Act} {w:World}
theorem R.absorbL {id:Ae} {b:Nat} {p:Ae→Bool}: ∀ (rs:List AR) {st:St} {G:Au} {e:Ak},R F st a w G→st.lookD id=some e→G.blk id=some b→
 (∀ x∈rs,st.look x.r=some x.ent∧x.k<e.cs.length∧(∀ i,pD x.r id i=true→p i=true)∧ ∃ v,w.cell? ⟨b,x.k,none⟩=some v∧G.own x.r=some v)→(rs.map (·.r)).Nodup →
 ∀ B:St,Sk p id (rs.map (·.r)) ⟨id,e.row,Fk e.cs rs,true⟩ st B→ ∃ G',R F B a w G'
 | [],st,G,e,h,hl,hb,_,_,B,hB=>by
   obtain⟨hm,hid,_,_,hpu,_⟩:=h.deepRow hl
   refine⟨G,h.less ⟨hB.len,fun i=>(hB.tm i).imp (fun q=>q) (fun q=>q.1),fun x hx=>?_,fun _=>hB.nd,⟨hB.glen,fun i=>(hB.gh i).imp (fun q=>q) (fun q=>q.1)⟩,hB.pre⟩⟩
   rcases hB.so x hx with rfl | ⟨q,_⟩
   ·have:(⟨id,e.row,Fk e.cs [],true⟩:Ak)=e:=by
     obtain⟨i,r,cs,pu⟩:=e
     simp only at hid hpu
     subst hid hpu
     rfl
    grind
   ·exact q
 | x::rs,st,G,e,h,hl,hb,hx,hnd,B,hB=>by
   simp only [List.map_cons,List.nodup_cons]at hnd
   obtain⟨x1,x2,x3,v,x4,x5⟩:=hx x (by simp)
   obtain⟨hm,hid,hd,hmk,hpu,_⟩:=h.deepRow hl
   obtain⟨hmr,hidr⟩:=AK x1
   have hndr:=DR x1
   have hmkr:BX x.r=false:=by rw [←hidr];exact(h.deep _ hmr).1
   have hrid:x.r ≠ id:=(by grind)
   obtain⟨G1,g1,g2,g3,g4⟩:=h.absorbA hl x1 rfl rfl hb x4 x5 x2
   have hmem: ∀ d∈st.so,d.id ≠ x.r→d.id ≠ id→(d.pu=true∨BF p d.cs=false)→d∈((st.so.filter (fun d=>d.id != x.r)).map (Ak.killP (pD x.r id))).map (setE id e.row (e.cs.set x.k (.isl x.E x.n x.len x.cs))):=by
    intro d hd' q1 q2 q3
    refine List.mem_map.2 ⟨d,List.mem_map.2 ⟨d,(by grind),?_⟩,CG q2⟩
    obtain⟨i,r,cs,pu⟩:=d
    cases pu with
    | true=>rfl
    | false=>
      rcases q3 with q3 | q3
      ·cases q3
      ·have:=Du x3 cs q3
       simp only [Ak.killP,Ak.mk.injEq,true_and,and_true]
       have key: ∀ l:List C,BF (pD x.r id) l=false→l.map (Bx (pD x.r id))=l:=by
        intro l
        induction l<;>simp_all [BF,Bx]
       grind
   have hL1:(st.killP (pD x.r id) (((st.so.filter (fun d=>d.id != x.r)).map (Ak.killP (pD x.r id))).map (setE id e.row (e.cs.set x.k (.isl x.E x.n x.len x.cs))))).lookD id=some ⟨id,e.row,e.cs.set x.k (.isl x.E x.n x.len x.cs),true⟩:=by
    refine g1.lookD_of ?_ rfl hd
    refine List.mem_map.2 ⟨e,List.mem_map.2 ⟨e,(by grind),?_⟩,?_⟩
    ·obtain⟨i,r,cs,pu⟩:=e
     simp only at hpu;subst hpu;rfl
    ·rw [CH hid,hid,hpu];rfl
   refine R.absorbL (p:=p) rs g1 hL1 (g3.trans hb) (fun y hy=>?_) hnd.2 B ?_
   ·obtain⟨y1,y2,y3,v',y4,y5⟩:=hx y (by simp [hy])
    obtain⟨hmy,hidy⟩:=AK y1
    have hyr:y.r ≠ x.r:=(by grind)
    have hyd:=DR y1
    have hyid:y.r ≠ id:=(by grind)
    refine⟨g1.look_of (hmem _ hmy hyr hyid (.inl rfl)) rfl hyd rfl,by grind,y3,v',y4,?_⟩
    have hpf:pD x.r id y.r=false:=by
     have hmky:BX y.r=false:=by rw [←hidy];exact(h.deep _ hmy).1
     grind [pD,DW]
    grind
   ·refine⟨by simp [St.killP,hB.len],fun i=>?_,by simp [St.killP,hB.glen],fun i=>?_,fun z hz=>?_,hB.nd,hB.pre⟩
    ·rcases hB.tm i with q | ⟨q1,q2⟩
     ·exact .inl q
     ·right
      simp only [St.killP]
      rw [DB (by simp [AV,V.menP])]
      have:=Dv x3 _ q2
      rw [show AV (pD x.r id) (st.tm.getD i .undef)=st.tm.getD i .undef from if_neg (by rw [this];exact Bool.false_ne_true)]
      grind
    ·rcases hB.gh i with q | ⟨q1,q2⟩
     ·exact .inl q
     ·right
      simp only [St.killP]
      have e1:(st.gh.map (AV (pD x.r id))).getD i .undef =AV (pD x.r id) (st.gh.getD i .undef):=by
       grind [AV]
      have:=Dv x3 _ q2
      rw [e1,show AV (pD x.r id) (st.gh.getD i .undef)=st.gh.getD i .undef from if_neg (by rw [this];exact Bool.false_ne_true)]
      grind
    ·rcases hB.so z hz with q | ⟨q1,q2,q3,q4⟩
     ·grind [Fk]
     ·right
      simp only [List.map_cons,List.mem_cons,not_or]at q3
      exact⟨hmem z q1 q3.1 q2 q4,q2,q3.2,q4⟩
end
end Go.PL
namespace Go.PL
open Go Go.RowKit
def Is:Op→Bool
 | .move _=>true
 | .nilCheck _=>true
 | .fieldAddr .. =>true
 | .indexAddr .. =>true
 | .unOp .. =>true
 | .extract .. =>true
 | _=>false
theorem aM {P:Program} {F:Fr} {st:St} {a:Act} {w:World} {G:Au} (h:R F st a w G) {g:Bool} (hg:g=true) {o:Oper} (hA:Is o.op=true) (hs:(rd P st g o.op).1):
 ∃ v,Ab w G (rd P st g o.op).2 v∧ ∀ w',(execOp a.eval o).run P w'= .ok (.value v) w':=by
 cases ho:o.op<;>simp only [rd,ho,bnd]at hs ⊢ <;>try (first | exact hs.elim | (rw [ho]at hA;cases hA;done))
 case move x=>exact⟨_,h.arg hg hs,fun w'=>by simp [execOp,ho]⟩
 case nilCheck x=>
  obtain⟨h1,h2⟩:=hs
  have hx:=h.arg hg h1
  unfold QH at h2 ⊢
  split at h2
  ·rename_i id off e
   rw [e]at hx
   simp only [Ab,Ac]at hx ⊢
   obtain⟨b,hb,hv⟩:=hx
   exact⟨_,⟨b,hb,rfl⟩,fun w'=>by simp [execOp,ho,hv]⟩
  ·rename_i cs off e
   rw [e]at hx
   simp only [Ab,Ac]at hx ⊢
   obtain⟨hp,b,o',hv,k1⟩:=hx
   exact⟨_,⟨hp,b,o',rfl,k1⟩,fun w'=>by simp [execOp,ho,hv]⟩
  ·rename_i f e
   rw [e]at hx
   simp only [Ab,Ac]at hx ⊢
   exact⟨_,rfl,fun w'=>by simp [execOp,ho,hx]⟩
  ·rename_i f cs e
   rw [e]at hx
   simp only [Ab,Ac]at hx ⊢
   obtain⟨arr,hv,hr⟩:=hx
   exact⟨_,⟨arr,rfl,hr⟩,fun w'=>by simp [execOp,ho,hv]⟩
  ·rename_i f cs e
   rw [e]at hx
   simp only [Ab,Ac]at hx ⊢
   obtain⟨arr,hv,hr⟩:=hx
   exact⟨_,⟨arr,rfl,hr⟩,fun w'=>by simp [execOp,ho,hv]⟩
  grind
 case unOp op t x=>
  obtain⟨v,q1,q2⟩:=Rt (P:=P) (h.arg hg hs.1) hs.2
  simp_all [execOp]
 case extract x i=>
  obtain⟨h1,h2⟩:=hs
  have hx:=h.arg hg h1
  unfold Xc at h2 ⊢
  split at h2
  ·rename_i vs e
   rw [e]at hx
   simp only [Ab]at hx
   obtain⟨arr,hv,hr⟩:=hx
   obtain⟨v,q1,q2⟩:=Fq hr i h2
   simp_all [execOp,Instr.extract]
  grind
 case fieldAddr s x f=>
  obtain⟨v,q1,q2⟩:=GW (P:=P) (h.arg hg hs.1) hs.2
  simp_all [execOp]
 case indexAddr t x i=>
  obtain⟨v,q1,q2⟩:=GX (P:=P) h (h.arg hg hs.1) (h.arg hg hs.2.1) hs.2.2
  simp_all [execOp]
theorem XR {P:Program} {F:Fr} {st:St} {a:Act} {w:World} {G:Au} (h:R F st a w G) {g:Bool} (hg:g=true) {o:Oper} (hA:Is o.op=true) (hs:(CA P st g o.op).1):
 ∃ v,Ab w G (CA P st g o.op).2 v∧ ∀ w',(execOp a.eval o).run P w'= .ok (.value v) w':=by
 have e:CA P st g o.op=rd P st g o.op:=by
  cases ho:o.op<;>first
   | rfl
   | (rw [ho]at hA;cases hA)
 grind [aM]
def Cz (o:Oper):Nat:=match o.guard,o.dst with
 | none,some _=>match Is o.op with
   | true=>2
   | false=>match o.op with
     | .load .. =>1
     | .slice .. =>1
     | _=>0
 | _,_=>0
def Iu (ops:Array Oper) (i:Nat):Nat:=match ops[i]? with
 | some o=>Cz o
 | none=>0
def aO (P:Program) (z:Prop) (o:Oper) (a:Act) (w:World):Prop:=
 ∀ d,o.dst=some d→ ∃ u,(z∨u=a.tmps.getD d Go.undef)∧ ∀ w',(Cz o=2∨BY w w')→(execOp a.eval o).run P w'= .ok (.value u) w'
def mD (ops:Array Oper) (pr:List (List Nat)) (i:Nat) (L:Array Bool):Prop:= ∃ k,L.getD k false=true∧Iu ops k=0∧i∈pr.getD k []
def Ja (ops:Array Oper) (lz:List Nat):Bool:=lz.all fun p=>match ops[p]? with
 | some o=>Nat.beq (Cz o) 1&&match o.dst with
   | some d=>(List.range ops.size).all fun k=>Nat.beq k p||match ops[k]? with
     | some ok=>(Nat.beq (Cz ok) 0|| !(ok.looksAt ops).contains d)&&match ok.dst with
       | some e=> !Nat.beq e d
       | none=>true
     | none=>true
   | none=>false
 | none=>false
def QF (P:Program) (ops:Array Oper) (pr:List (List Nat)) (lz:List Nat) (L:Array Bool) (a:Act) (w:World):Prop:=
 ∀ i o,ops[i]? =some o→Cz o ≠ 0→L.getD i false=true→ ¬mD ops pr i L→aO P (i∈lz) o a w
def ol (P:Program) (ops:Array Oper) (pr:List (List Nat)) (lz:List Nat) (L:Array Bool) (w:World) (a a':Act):Prop:=
 ∃ p o d u,p∈lz∧ops[p]? =some o∧o.dst=some d∧L.getD p false=true∧ ¬mD ops pr p L∧(execOp a.eval o).run P w= .ok (.value u) w∧a'=a.put (some d) u
inductive Ups (P:Program) (ops:Array Oper) (pr:List (List Nat)) (lz:List Nat) (L:Array Bool) (w:World) (a:Act):Act→Prop
 | refl:Ups P ops pr lz L w a a
 | step {b c:Act}:Ups P ops pr lz L w a b→ol P ops pr lz L w b c→Ups P ops pr lz L w a c
def CF (P:Program) (ops:Array Oper) (Q:Exit→Act→World→Prop) (pr:List (List Nat)) (lz:List Nat):Nat→Array Bool→Act→World→Prop
 | 0,L,a,w=>Region.ready .any ops L=[]∧Q .normal a w
 | fuel+1,L,a,w=>(Region.ready .any ops L=[]→Q .normal a w)∧
   ∀ i∈Region.ready .any ops L,wpOp P ops Q i (fun a' w'=> ∀ a'',Ups P ops pr lz (L.setIfInBounds i true) w' a' a''→QF P ops pr lz (L.setIfInBounds i true) a'' w'∧CF P ops Q pr lz fuel (L.setIfInBounds i true) a'' w') a w
def L8 (ops:Array Oper) (pr:List (List Nat)):Bool:=Region.noSelect ops&&(KW ops pr&&(List.range ops.size).all fun p=>match ops[p]? with
 | none=>true
 | some o=>match Cz o,o.dst with
   | 0,_=>true
   | _,none=>false
   | _,some d=> !(o.looksAt ops).contains d&&(List.range ops.size).all fun k=>Nat.beq k p||match ops[k]? with
     | none=>true
     | some ok=>(Ec (pr.getD p []) k||((Nat.beq (Cz ok) 0&&Ec (pr.getD k []) p)||match ok.dst with
      | some e=> !(o.looksAt ops).contains e&& !Nat.beq e d
      | none=>true))&&(Ec (pr.getD k []) p||(Ec (pr.getD p []) k||o.apart ops ok)))
section
variable {P:Program} {ops:Array Oper} {Q:Exit→Act→World→Prop} {pr:List (List Nat)} {lz:List Nat}
theorem Pu: ∀ (fuel:Nat) (L:Array Bool) (a:Act) (w:World),CF P ops Q pr lz fuel L a w→wpAny P .any ops Q fuel L a w
 | 0,_,_,_,h=>h
 | fuel+1,_,_,_,h=>⟨h.1,fun i hi=>wpOp_mono (fun a' w' h'=>Pu fuel _ a' w' (h' a' .refl).2) (h.2 i hi)⟩
theorem G9 {o:Oper} (h:Cz o ≠ 0):o.guard=none∧ ∃ d,o.dst=some d:=by
 unfold Cz at h
 grind
theorem Ew (h:L8 ops pr=true):Region.noSelect ops=true∧KW ops pr=true∧ ∀ p o,ops[p]? =some o→Cz o ≠ 0→ ∀ d,o.dst=some d→d∉o.looksAt ops∧ ∀ k ok,ops[k]? =some ok→k ≠ p→
 (k∈pr.getD p []∨(Cz ok=0∧p∈pr.getD k [])∨ ∀ e,ok.dst=some e→e∉o.looksAt ops∧e ≠ d)∧(p∈pr.getD k []∨k∈pr.getD p []∨o.apart ops ok=true):=by
 simp only [L8,Bool.and_eq_true,List.all_eq_true,List.mem_range]at h
 refine⟨h.1,h.2.1,fun p o hp hc d hd=>?_⟩
 have hlt:p<ops.size:=(by grind)
 have:=h.2.2 p hlt
 simp only [hp,hd]at this
 simp only [Bool.and_eq_true,Bool.not_eq_true',List.all_eq_true,List.mem_range]at this
 refine⟨by grind,fun k ok hk hne=>?_⟩
 have hkl:k<ops.size:=(by grind)
 have:=this.2 k hkl
 simp only [hk,Bool.or_eq_true,Bool.and_eq_true,BQ,Nat.beq_eq]at this
 rcases this with q | ⟨q1,q2⟩
 ·grind
 ·refine⟨q1.imp id fun q=>q.imp id fun q e he=>?_,q2⟩
  rw [he]at q
  simp only [Bool.and_eq_true,Bool.not_eq_true']at q
  refine⟨by grind,fun e=>?_⟩
  simp_all
def dE (pr:List (List Nat)) (L:Array Bool):Prop:= ∀ k,L.getD k false=true→ ∀ j∈pr.getD k [],L.getD j false=true
theorem om (hp:KW ops pr=true): ∀ (k:Nat),k<ops.size→ ∀ j∈pr.getD k [],j<k:=by
 intro k
 induction k using Nat.strongRecOn with
 | ind k ih=>
   intro hk j hj
   have hp':=hp
   simp only [KW,List.all_eq_true,List.mem_range,Bool.and_eq_true,Bool.or_eq_true,List.any_eq_true,BQ,Nat.blt_eq]at hp'
   grind
theorem gP {L:Array Bool} {i:Nat} (h:L.getD i true=false):L.getD i false=false:=by
 grind
theorem getD_tf' {L:Array Bool} {i:Nat} (h:L.getD i true=false):(L.setIfInBounds i true).getD i false=true:=by
 rcases Nat.lt_or_ge i L.size with q | q
 all_goals simp_all
theorem Ca {L:Array Bool} {i k:Nat} (h:(L.setIfInBounds i true).getD k false=true):k=i∨L.getD k false=true:=by
 by_cases q:i=k
 all_goals simp_all
theorem DJ (hp:KW ops pr=true) {L:Array Bool} (hd:dE pr L) {i:Nat} (h:i∈Region.ready .any ops L):i<ops.size∧L.getD i true=false∧ ∀ j∈pr.getD i [],L.getD j false=true:=by
 obtain⟨h0,o,ho,hall⟩:=mem_ready.1 h
 have hlt:i<ops.size:=(by grind)
 refine⟨hlt,h0,fun j hj=>?_⟩
 have hp':=hp
 simp only [KW,List.all_eq_true,List.mem_range,Bool.and_eq_true,Bool.or_eq_true,List.any_eq_true,BQ,Nat.blt_eq]at hp'
 have dir: ∀ k∈NI ops i,L.getD k false=true:=fun k hk=>by
  unfold NI at hk
  grind
 rcases (hp' i hlt).2 j hj with q | ⟨m,hm,q⟩
 ·grind
 ·exact hd m (dir m hm) j q
theorem dE.set (hp:KW ops pr=true) {L:Array Bool} (hd:dE pr L) {i:Nat} (h:i∈Region.ready .any ops L):dE pr (L.setIfInBounds i true):=fun k hk j hj=>by
 rcases Ca hk with rfl | hk
 ·exact getD_set_true ((DJ hp hd h).2.2 j hj)
 ·exact getD_set_true (hd k hk j hj)
theorem V9 (a:Act) (d:Nat) (v:Value):a.put (some d) ((a.put (some d) v).tmps.getD d Go.undef)=a.put (some d) v:=by
 rcases Nat.lt_or_ge d a.tmps.size with q | q
 all_goals simp_all [Act.put,Array.setIfInBounds_eq_of_size_le]
theorem Cb {a:Act} {x:Option Tmp} {v:Value} {d:Nat} (h: ∀ e,x=some e→e ≠ d):(a.put x v).tmps.getD d Go.undef=a.tmps.getD d Go.undef:=by
 cases x with
 | none=>rfl
 | some e=>
   have:=h e rfl
   simp_all [Act.put]
theorem aO.of_put {z:Prop} {o:Oper} {a:Act} {w:World} {x:Option Tmp} {v:Value} (hs: ∀ cs b,o.op ≠ .select cs b) (h1: ∀ e,x=some e→e∉o.looksAt ops) (h2: ∀ d e,o.dst=some d→x=some e→e ≠ d):aO P z o (a.put x v) w↔aO P z o a w:=by
 unfold aO
 refine forall_congr' fun d=>forall_congr' fun hd=>?_
 rw [execOp_put o hs a x v h1,Cb (by grind)]
theorem gQ (a:Act) (d:Nat) (v u:Value):(a.put (some d) v).put (some d) u=a.put (some d) u:=by
 simp only [Act.put,Array.setIfInBounds_setIfInBounds]
theorem dF (a:Act) {d e:Nat} (h:e ≠ d) (v u:Value):(a.put (some d) v).put (some e) u=(a.put (some e) u).put (some d) v:=by
 simp_all [Act.put,Array.setIfInBounds_comm]
theorem FA (h:Ja ops lz=true) {p:Nat} (hp:p∈lz) {o:Oper} (ho:ops[p]? =some o):Cz o=1∧ ∀ d,o.dst=some d→ ∀ k ok,ops[k]? =some ok→k ≠ p→(Cz ok ≠ 0→d∉ok.looksAt ops)∧ ∀ e,ok.dst=some e→e ≠ d:=by
 simp only [Ja,List.all_eq_true]at h
 have:=h p hp
 rw [ho]at this
 simp only [Bool.and_eq_true,Nat.beq_eq]at this
 refine⟨this.1,fun d hd k ok hk hne=>?_⟩
 have h2:=this.2
 rw [hd]at h2
 simp only [List.all_eq_true,List.mem_range]at h2
 have h3:=h2 k (Array.getElem?_eq_some_iff.1 hk).1
 rw [hk]at h3
 simp only [Bool.or_eq_true,Bool.and_eq_true,Nat.beq_eq,Bool.not_eq_true']at h3
 rcases h3 with q | ⟨q1,q2⟩
 ·grind
 ·refine⟨fun hc=>?_,fun e he=>?_⟩
  ·grind
  ·rw [he]at q2
   intro e';simp_all
theorem QF.up1 (hst:L8 ops pr=true) (hlz:Ja ops lz=true) {L:Array Bool} {a a':Act} {w:World} (h:QF P ops pr lz L a w) (hu:ol P ops pr lz L w a a'):QF P ops pr lz L a' w:=by
 obtain⟨hns,hp,hstat⟩:=Ew hst
 have hsel:=Region.noSelect_spec hns
 obtain⟨p,o,d,u,h1,h2,h3,h4,h5,h6,rfl⟩:=hu
 obtain⟨k1,k2⟩:=FA hlz h1 h2
 have hown:=(hstat p o h2 (by omega) d h3).1
 intro q oq hq hc hl hf
 by_cases hqp:q=p
 ·subst hqp
  rw [h2]at hq;injection hq with hq;subst hq
  intro d' hd'
  obtain⟨u',m1,m2⟩:=h q o h2 hc hl hf d' hd'
  refine⟨u', .inl h1,fun w' hw'=>?_⟩
  rw [execOp_put o (by grind) a (some d) u (fun e he=>by injection he with he;exact he▸hown)]
  grind
 ·obtain⟨m1,m2⟩:=k2 d h3 q oq hq hqp
  exact(aO.of_put (ops:=ops) (by grind) (by grind) (by grind)).2 (h q oq hq hc hl hf)
theorem QF.ups (hst:L8 ops pr=true) (hlz:Ja ops lz=true) {L:Array Bool} {a a':Act} {w:World} (h:QF P ops pr lz L a w) (hu:Ups P ops pr lz L w a a'):QF P ops pr lz L a' w:=by
 induction hu with
 | refl=>exact h
 | step _ h1 ih=>exact ih.up1 hst hlz h1
theorem Ups.trans {L:Array Bool} {a b c:Act} {w:World} (h:Ups P ops pr lz L w a b) (h2:Ups P ops pr lz L w b c):Ups P ops pr lz L w a c:=by
 induction h2 with
 | refl=>exact h
 | step _ h1 ih=>exact ih.step h1
theorem Ups.put (hst:L8 ops pr=true) (hlz:Ja ops lz=true) {i:Nat} {oi:Oper} {v:Value} (hi:ops[i]? =some oi) (hc:Cz oi ≠ 0) {L:Array Bool} (hdc:dE pr L) (hun:L.getD i false=false) {a b:Act} {w:World} (h:Ups P ops pr lz L w a b):Ups P ops pr lz (L.setIfInBounds i true) w (a.put oi.dst v) (b.put oi.dst v):=by
 obtain⟨hns,hp,hstat⟩:=Ew hst
 have hsel:=Region.noSelect_spec hns
 obtain⟨_,d,hd⟩:=G9 hc
 induction h with
 | refl=>exact .refl
 | step _ hu ih=>
   refine ih.step ?_
   obtain⟨p,o,e,u,h1,h2,h3,h4,h5,h6,rfl⟩:=hu
   obtain⟨k1,k2⟩:=FA hlz h1 h2
   have hne:i ≠ p:=(by grind)
   have hde:=(k2 e h3 i oi hi hne).2 d hd
   have hcN:Iu ops i ≠ 0:=by grind [Iu]
   have hlook:d∉o.looksAt ops:=by
    rcases ((hstat p o h2 (by omega) e h3).2 i oi hi hne).1 with q | q | q
    ·have:=hdc p h4 i q
     grind
    all_goals grind
   refine⟨p,o,e,u,h1,h2,h3,getD_set_true h4,fun⟨k,hk,hk0,hpk⟩=>?_,?_,?_⟩
   ·rcases Ca hk with rfl | hk
    ·grind
    ·exact h5 ⟨k,hk,hk0,hpk⟩
   ·rw [execOp_put o (by grind) _ oi.dst v (fun e he=>by rw [hd]at he;injection he with he;exact he▸hlook)]
    exact h6
   ·rw [hd,dF _ (Ne.symm hde)]
theorem kL (hst:L8 ops pr=true) (hlz:Ja ops lz=true) {i:Nat} {oi:Oper} {v:Value} (hi:ops[i]? =some oi) (hc:Cz oi ≠ 0) (hQ: ∀ c a w, ¬Q (.panic c) a w):
 ∀ (fuel:Nat) (L:Array Bool) (a:Act) (w:World),dE pr L→i∈Region.ready .any ops L→
   (∀ a'',Ups P ops pr lz (L.setIfInBounds i true) w (a.put oi.dst v) a''→QF P ops pr lz (L.setIfInBounds i true) a'' w∧CF P ops Q pr lz fuel (L.setIfInBounds i true) a'' w)→CF P ops Q pr lz (fuel+1) L a w:=by
 obtain⟨hns,hp,hstat⟩:=Ew hst
 have hsel:=Region.noSelect_spec hns
 obtain⟨hgd,d,hd⟩:=G9 hc
 have hown:=(hstat i oi hi hc d hd).1
 have hcN:Iu ops i ≠ 0:=by grind [Iu]
 have wanted: ∀ a:Act,Region.wanted oi (yielded ops a.tmps)=true:=fun a=>CO hgd _
 have nfrc: ∀ (L:Array Bool),dE pr L→i∈Region.ready .any ops L→ ¬mD ops pr i (L.setIfInBounds i true):=fun L hdc hr ⟨k,hk,hk0,hik⟩=>by
  obtain⟨_,hun,_⟩:=DJ hp hdc hr
  rcases Ca hk with rfl | hk
  ·grind
  ·have:=hdc k hk i hik
   grind
 have self: ∀ (L:Array Bool) (a:Act) (w:World) (fuel:Nat),dE pr L→i∈Region.ready .any ops L→(∀ a'',Ups P ops pr lz (L.setIfInBounds i true) w (a.put oi.dst v) a''→QF P ops pr lz (L.setIfInBounds i true) a'' w∧CF P ops Q pr lz fuel (L.setIfInBounds i true) a'' w)→
  wpOp P ops Q i (fun a' w'=> ∀ a'',Ups P ops pr lz (L.setIfInBounds i true) w' a' a''→QF P ops pr lz (L.setIfInBounds i true) a'' w'∧CF P ops Q pr lz fuel (L.setIfInBounds i true) a'' w') a w:=fun L a w fuel hdc hr H=>by
  obtain⟨_,hun,_⟩:=DJ hp hdc hr
  obtain⟨u,hz,hu⟩:=(H _ .refl).1 i oi hi hc (getD_tf' hun) (nfrc L hdc hr) d hd
  have hex:=hu w (.inr (BY.refl w))
  have hex2:=hex
  rw [execOp_put oi (by grind) a oi.dst v (fun e he=>by rw [hd]at he;injection he with he;exact he▸hown)]at hex
  have hy:YieldsIf P ops (fun w'=>w'=w) oi u a:= .inl ⟨wanted a,fun w' e=>by subst e;exact hex⟩
  refine hy.wpOp hi rfl ?_
  rcases hz with hz | hz
  ·intro a'' ha''
   refine H a'' (Ups.trans (.step .refl ?_) ha'')
   exact⟨i,oi,d,u,hz,hi,hd,getD_tf' hun,nfrc L hdc hr,hex2,by rw [hd,gQ]⟩
  ·subst hz
   intro a'' ha''
   rw [hd,V9]at ha''
   grind
 intro fuel
 induction fuel with
 | zero=>
   intro L a w hdc hr H
   refine⟨(by grind),fun j hj=>?_⟩
   by_cases hji:j=i
   ·simp_all
   ·have:=ready_mono hj hji
    rw [(H _ .refl).2.1]at this
    cases this
 | succ fuel ih=>
   intro L a w hdc hr H
   refine⟨(by grind),fun j hj=>?_⟩
   by_cases hji:j=i
   ·simp_all
   ·have h1:=(H _ .refl).2.2 j (ready_mono hj hji)
    obtain⟨hjl,hjun,hjpre⟩:=DJ hp hdc hj
    obtain⟨hil,hiun,hipre⟩:=DJ hp hdc hr
    have hoj:ops[j]? =some ops[j]:=(by grind)
    have nij:i∉pr.getD j []:=(by grind)
    have nji:j∉pr.getD i []:=(by grind)
    have hap:oi.apart ops ops[j]=true:=by
     grind
    have hy:YieldsIf P ops (fun _=>False) oi v a:= .inl ⟨wanted a,fun _ h=>h.elim⟩
    have h2:=wpOp_putIf hoj hap (fun cs b=>hsel i oi cs b hi) (fun cs b=>hsel j _ cs b hoj) (fun c a w q=>absurd q (hQ c _ w)) hy h1
    have hdj:=hdc.set hp hj
    have hir:i∈Region.ready .any ops (L.setIfInBounds j true):=ready_mono hr (Ne.symm hji)
    have hiuj:(L.setIfInBounds j true).getD i false=false:=by rw [getD_set_ne false hji];grind
    refine wpOp_mono (fun a' w' ⟨_,h34⟩=>?_) h2
    rw [Array.setIfInBounds_comm _ _ (Ne.symm hji)]at h34
    intro a3 ha3
    have H3: ∀ a'',Ups P ops pr lz ((L.setIfInBounds j true).setIfInBounds i true) w' (a3.put oi.dst v) a''→QF P ops pr lz ((L.setIfInBounds j true).setIfInBounds i true) a'' w'∧CF P ops Q pr lz fuel ((L.setIfInBounds j true).setIfInBounds i true) a'' w':=fun a'' ha''=>
     h34 a'' ((ha3.put hst hlz hi hc hdj hiuj).trans ha'')
    refine⟨fun p op hop hcp hpl hpf=>?_,(by grind)⟩
    have h3:=(H3 _ .refl).1
    have hne:p ≠ i:=(by grind)
    have nip:i∉pr.getD p []:=fun q=>by
     have:=hdj p hpl i q
     grind
    obtain⟨_,dp,hdp⟩:=G9 hcp
    have hpd: ∀ e,oi.dst=some e→e∉op.looksAt ops∧e ≠ dp:=by
     rcases ((hstat p op hop hcp dp hdp).2 i oi hi (Ne.symm hne)).1 with q | q | q
     ·grind
     all_goals grind
    have:=h3 p op hop hcp (getD_set_true hpl) (fun⟨k,hk,hk0,hpk⟩=>by
     rcases Ca hk with rfl | hk
     ·grind
     ·exact hpf ⟨k,hk,hk0,hpk⟩)
    exact(aO.of_put (ops:=ops) (by grind) (by grind) (by grind)).1 this
theorem QF.take (hst:L8 ops pr=true) {i:Nat} {oi:Oper} {v:Value} (hi:ops[i]? =some oi) (hc:Cz oi ≠ 0) {L:Array Bool} {a:Act} {w:World} (hdc:dE pr L) (hr:i∈Region.ready .any ops L)
 (hS:QF P ops pr lz L a w) (hW:aO P (i∈lz) oi (a.put oi.dst v) w):QF P ops pr lz (L.setIfInBounds i true) (a.put oi.dst v) w:=by
 obtain⟨hns,hp,hstat⟩:=Ew hst
 have hsel:=Region.noSelect_spec hns
 obtain⟨hil,hiun,hipre⟩:=DJ hp hdc hr
 intro p op hop hcp hpl hpf
 rcases Ca hpl with rfl | hpl2
 ·grind
 ·clear hpl
  have hpl:=hpl2
  have hne:p ≠ i:=(by grind)
  have nip:i∉pr.getD p []:=fun q=>by
   have:=hdc p hpl i q
   grind
  obtain⟨_,dp,hdp⟩:=G9 hcp
  have hpd: ∀ e,oi.dst=some e→e∉op.looksAt ops∧e ≠ dp:=by
   grind
  refine(aO.of_put (ops:=ops) (by grind) (by grind) (by grind)).2 ?_
  exact hS p op hop hcp hpl (fun⟨k,hk,hk0,hpk⟩=>hpf ⟨k,getD_set_true hk,hk0,hpk⟩)
theorem gR {o:Oper} {a:Act} {w:World} {K:Act→World→Prop} (h:o.wp P a w K Q):o.wp P a w (fun a' w'=>K a' w'∧ ∃ ds u,a'=({a with defers:=ds}:Act).put o.dst u) Q:=by
 unfold Oper.wp at *
 generalize (execOp a.eval o).run P w=r at *
 cases r with
 | ok n w'=>
   cases n<;>simp only [Oper.upon]at h ⊢ <;>first
    | grind
    | grind
    | grind
    | grind
    | exact h
 | halt x w'=>cases x<;>simp only [Oper.upon]at h ⊢ <;>exact h
theorem XT (hst:L8 ops pr=true) (hlz:Ja ops lz=true) {j:Nat} {oj:Oper} (hj:ops[j]? =some oj) (hc:Cz oj=0) {L:Array Bool} {a:Act} {w:World} (hdc:dE pr L) (hrj:j∈Region.ready .any ops L) {fuel:Nat} (hS:QF P ops pr lz L a w) {K:Act→World→Prop}
 (hw:if Region.wanted oj (yielded ops a.tmps)=true then oj.wp P a w K Q else K (a.put oj.dst undef) w)
 (hB: ∀ a' w',K a' w'→ ∀ p op,ops[p]? =some op→Cz op=1→L.getD p false=true→ ¬mD ops pr p (L.setIfInBounds j true)→(∀ w1,BY w w1→(execOp a'.eval op).run P w1=(execOp a.eval op).run P w1)→(∀ d,op.dst=some d→a'.tmps.getD d Go.undef=a.tmps.getD d Go.undef)→aO P (p∈lz) op a w→aO P (p∈lz) op a' w')
 (hU: ∀ a' w' a'',K a' w'→ol P ops pr lz (L.setIfInBounds j true) w' a' a''→K a'' w')
 (hK: ∀ a' w',K a' w'→(∀ d',oj.dst ≠ some d'→(∀ (p:Nat) (op:Oper),ops[p]? =some op→Cz op ≠ 0→op.dst ≠ some d')→a'.tmps.getD d' Go.undef=a.tmps.getD d' Go.undef)→QF P ops pr lz (L.setIfInBounds j true) a' w'→CF P ops Q pr lz fuel (L.setIfInBounds j true) a' w'):
 wpOp P ops Q j (fun a' w'=> ∀ a'',Ups P ops pr lz (L.setIfInBounds j true) w' a' a''→QF P ops pr lz (L.setIfInBounds j true) a'' w'∧CF P ops Q pr lz fuel (L.setIfInBounds j true) a'' w') a w:=by
 obtain⟨hns,hp,hstat⟩:=Ew hst
 have hsel:=Region.noSelect_spec hns
 obtain⟨hjl,hjun,hjpre⟩:=DJ hp hdc hrj
 have key: ∀ a' w',K a' w'→(∃ ds u,a'=({a with defers:=ds}:Act).put oj.dst u)→ ∀ a'',Ups P ops pr lz (L.setIfInBounds j true) w' a' a''→QF P ops pr lz (L.setIfInBounds j true) a'' w'∧CF P ops Q pr lz fuel (L.setIfInBounds j true) a'' w':=by
  intro a' w' hk ⟨ds,u,ha'⟩
  have hSS:QF P ops pr lz (L.setIfInBounds j true) a' w':=by
   intro p op hop hcp hpl hpf
   have hne:p ≠ j:=(by grind)
   have hpl:L.getD p false=true:=by
    grind [Ca]
   have nip:j∉pr.getD p []:=fun q=>by
    have:=hdc p hpl j q
    grind
   obtain⟨_,dp,hdp⟩:=G9 hcp
   have hpd: ∀ e,oj.dst=some e→e∉op.looksAt ops∧e ≠ dp:=by
    rcases ((hstat p op hop hcp dp hdp).2 j oj hj (Ne.symm hne)).1 with q | q | q
    ·grind
    ·exact absurd ⟨j,getD_tf' hjun,by unfold Iu;rw [hj];exact hc,q.2⟩ hpf
    ·exact q
   have hold: ¬mD ops pr p L:=fun⟨k,hk,hk0,hpk⟩=>hpf ⟨k,getD_set_true hk,hk0,hpk⟩
   have hW:=hS p op hop hcp hpl hold
   have e1:execOp a'.eval op=execOp a.eval op:=by
    rw [ha']
    exact execOp_put op (by grind) ({a with defers:=ds}:Act) oj.dst u (fun e he=>(hpd e he).1)
   have e2: ∀ d,op.dst=some d→a'.tmps.getD d Go.undef=a.tmps.getD d Go.undef:=(by grind [Cb])
   by_cases h2:Cz op=2
   ·intro d hd
    obtain⟨u',m1,m2⟩:=hW d hd
    simp_all
   ·have h1:Cz op=1:=by
     have:Cz op≤2:=by
      unfold Cz
      grind
     omega
    grind
  have hsl: ∀ d',oj.dst ≠ some d'→a'.tmps.getD d' Go.undef=a.tmps.getD d' Go.undef:=(by grind [Cb])
  intro a'' hu
  have hk':K a'' w'∧ ∀ d',oj.dst ≠ some d'→(∀ (p:Nat) (op:Oper),ops[p]? =some op→Cz op ≠ 0→op.dst ≠ some d')→a''.tmps.getD d' Go.undef=a.tmps.getD d' Go.undef:=by
   induction hu with
   | refl=>grind
   | step _ h1 ih=>
     refine⟨hU _ _ _ ih.1 h1,fun d' hd' hp'=>?_⟩
     obtain⟨p,o,d,u,q1,q2,q3,q4,q5,q6,rfl⟩:=h1
     rw [Cb (fun e he q=>?_)]
     ·exact ih.2 d' hd' hp'
     grind [FA]
  have hS'':=hSS.ups hst hlz hu
  grind
 unfold wpOp
 simp only [hj]
 split
 ·rename_i hwt
  rw [if_pos hwt]at hw
  exact .inl (Oper.wp_mono (by grind) (gR hw))
 grind
end
theorem L9 {P:Program} {F:Fr} {st:St} {a:Act} {w:World} {G:Au} (h:R F st a w G) {d:Nat} {t:TypeId} {len:Nat} {ps:Array (Nat×Operand)} (hs:(AI P st d t len ps.toList).1) {r:Value} {w':World}
 (hr:(Instr.buildSlice t len (ps.map fun(i,x)=>(i,a.eval x))).run P w= .ok r w'):BY w w':=by
 unfold AI at *
 split at hs
 ·rename_i E n by' hsel
  split at hs
  ·rename_i z hz
   split at hs
   ·rename_i cs hf
    obtain⟨h1,h2,h3,h4⟩:=hs
    obtain⟨i,zv,hu,hi,hzv,hsz,hby,hzs⟩:=A8 hsel
    obtain⟨i',zv',hi',hzv',hc⟩:=El hz
    rw [hi]at hi';injection hi' with hi';subst hi'
    rw [hzv]at hzv';injection hzv' with hzv';subst hzv'
    have hzr:=GZ (Dp (w:=w) (G:=G) hc) (by omega) len
    obtain⟨arr',q1,q2⟩:=FM hf (IP (h.parts rfl h1)) hzr
    have q1':Instr.fill (fun i=>some (i*n,n)) ((Array.range (len*n)).map (zv.cells[· % zv.cells.size]!)) (ps.map fun(i,x)=>(i,a.eval x)).toList =some arr':=by
     simp_all
    rw [run_buildSlice' hu hi hzv hsz h3 h4 q1']at hr
    grind [Ek]
   grind
  grind
 grind
end Go.PL
namespace Go.PL
open Go Go.RowKit
section
variable {F:Fr} {st:St} {a:Act} {w:World} {G:Au}
theorem TQ {w:World} {G:Au}: ∀ {cs:List C} {vs:List Value} {k:Nat} {c:C},Ag w G cs vs→cs[k]? =some c→ ∃ v,vs[k]? =some v∧Ac w G c v
 | [],_,_,_,_,h=>by simp at h
 | _::_,[],_,_,h,_=>by simp only [Ag]at h
 | c::cs,v::vs,0,d,h,hk=>by
   simp only [Ag]at h
   grind
 | c::cs,v::vs,k+1,d,h,hk=>by
   simp only [Ag]at h
   obtain⟨u,h1,h2⟩:=TQ h.2 (by simpa using hk)
   exact⟨u,by simpa using h1,h2⟩
theorem R.nilsOwned (h:R F st a w G) {id:Ae} {e:Ak} (hl:st.lookD id=some e) {cs':List C} (hlen:cs'.length=e.cs.length) (hp:Aj cs'=true) {b:Nat} (hb:G.blk id=some b)
 (hc: ∀ k c,cs'[k]? =some c→(e.cs[k]? =some c∧W9 c=true)∨ ∃ E n,c= .isl E n 0 []∧w.cell? ⟨b,k,none⟩=some (.slice none 0 0)):
 ∃ G',R F (st.killP (CI id) ((st.so.map (Ak.killP (CI id))).map (setE id e.row cs'))) a w G'∧G'.own id=G.own id:=by
 obtain⟨hm,hid,hd,hmk,hpu,hpe,hi,E0,n0,len0,hr0⟩:=h.deepRow hl
 let G':Au:=⟨fun i=>if CI id i=true then none else G.blk i,fun i=>if CI id i=true then some (.slice none 0 0)else G.own i,fun b=>F.av b∨ ∃ i,(if CI id i=true then none else G.blk i)=some b⟩
 have hag: ∀ i,CI id i=false→G'.blk i=G.blk i∧G'.own i=G.own i:=(by grind)
 have hno:CI id id=false:=by
  grind [DW]
 have t:Gn F (CI id) (fun _=>false) G G' w w:=Eo h G' rfl hag (by grind) (fun i j b hib hjb=>by
  simp only [G']at hib hjb
  split at hib
  ·cases hib
  ·split at hjb
   ·cases hjb
   ·exact h.inj _ _ b hib hjb)
 obtain⟨E1,n1,len1,v1,cap1,cur1,g1,g2,g3,g4,g5,g6,g7,g8,g9⟩:=h.deepRel hl hb
 obtain⟨us,r1,r2⟩:=g9.list
 have hnoA: ∀ cs:List C,Aj cs=true→FE (fun i=>Bd i cs=true) G G':=fun cs hp i hi'=>absurd (show Bd i cs=true from hi') (by rw [AE i cs hp];simp)
 have hrow:Ai w G' cs' b 0:=by
  have:=kf (f:=_root_.id) (cs:=cs') (b:=b) (o:=0) (w:=w) (G:=G') (fun k c hk=>by
   rcases hc k c hk with ⟨q1,q2⟩ | ⟨E,n,q1,q2⟩
   ·obtain⟨u,k1,k2⟩:=TQ (Ag.mono t.keeps _ _ (hnoA _ hpe) r1) q1
    exact⟨u,by rw [Nat.zero_add];have:=r2 k u k1;grind,k2⟩
   ·refine⟨.slice none 0 0,by grind,?_⟩
    rw [q1]
    simp only [_root_.id,Ac]
    rfl)
  simp_all
 have hrel:AJ w G' ⟨id,e.row,cs',true⟩:=by
  unfold AJ
  rw [g1]
  exact⟨by grind,v1,by grind, .inr ⟨b,cap1,cur1,g4,by grind,g5,g6,g7,g8,hrow⟩⟩
 have hin:C7 w G' ⟨id,e.row,cs',true⟩:=by
  intro j E2 n2 len2 cs2 hj
  rcases hc j _ hj with ⟨_,q2⟩ | ⟨E,n,q1,q2⟩
  ·cases q2
  ·injection q1 with q1 q3 q4 q5
   subst q1 q3 q4 q5
   have ho:G'.own (A9 j id)=some (.slice none 0 0)∧G'.blk (A9 j id)=none:=by
    grind [Fa]
   refine⟨rfl,?_,b,_,by grind,q2,ho.1⟩
   unfold AJ
   grind
 have hents:=t.ents h hl (fun _=>true) (fun d hd' _ hne'=>by
  have h1:CI id d.id=false:=by
   cases q:CI id d.id with
   | false=>rfl
   | true=>have:=DW q;rw [(h.deep d hd').1]at this;cases this
  exact⟨h1,rfl,fun _ k=>⟨by grind [Fa],rfl⟩⟩) (by rw [g1];rfl) hrel hin hp
 rw [Gy]at hents
 exact⟨G',t.killed h _ hents.1 hents.2.1 hents.2.2.1 hents.2.2.2,(hag id hno).2⟩
end
end Go.PL
namespace Go.PL
open Go Go.RowKit
theorem R.remade {F:Fr} {st:St} {a:Act} {w w':World} {G:Au} (h:R F st a w G) {id:Ae} {e:Ak} (he:st.look id=some e) {E n len len':Nat}
 {v v':Value} {xs us:List Value} {cs:List C} (hq:Aj cs=true) (hob:v.ownBlock=G.blk id) (h2:Ag w G cs us)
 (hold:w.ownsRow 0 E n v len xs) (hnew:w'.ownsRow 0 E n v' len' us) (hg:w.grownBy w' v.ownBlock) (hfr:v'.ownBlock=v.ownBlock∨ ∀ b,v'.ownBlock=some b→w.heap.size≤b):
 ∃ G',R F (st.new ⟨id,some (E,n,len'),cs,true⟩) a w' G'∧G'.own id=some v'∧v'.oneCell'=true:=by
 obtain⟨hm,hid⟩:=AK he
 have hblk: ∀ b,b<w.heap.size→G.blk id ≠ some b→w'.heap[b]? =w.heap[b]? :=fun b hb hne=>hg.block b hb (by grind)
 have hn: ∀ b,v'.ownBlock=some b→w.heap.size≤b∨(G.blk id=some b∧Bt w w' b):=by
  intro b hb
  rcases hfr with q | q
  ·refine .inr ⟨by grind,?_⟩
   have hb2:v.ownBlock=some b:=by grind
   intro cur T fz hc
   rcases hnew.2 with ⟨r,_⟩ | ⟨g,cap,cur',r,_,r2,_⟩
   ·rw [r]at hb;cases hb
   ·rw [r]at hb
    simp only [Value.ownBlock,Option.some.injEq]at hb
    subst hb
    rcases hold.2 with ⟨r3,_⟩ | ⟨g3,cap3,cur3,r3,_,r4,_⟩
    all_goals grind [Value.ownBlock]
  grind
 have hlt: ∀ b,v'.ownBlock=some b→b<w'.heap.size:=fun b hb=>(hnew.lt b hb).2
 have hone:v'.oneCell'=true:=by
  rcases hnew.2 with ⟨q,_⟩ | ⟨g,cap,cur,q,_⟩<;>rw [q]<;>rfl
 refine⟨Bo F G id v'.ownBlock (some v'),?_,by simp [Bo],hone⟩
 have hk:=h.keeps id v'.ownBlock (some v') hg.size hblk hn
 have hkill:=EE (row:=some (E,n,len')) (pu:=true) h hk (fun _=>hq) h2
 refine h.set ⟨id,some (E,n,len'),cs,true⟩ v'.ownBlock (some v') ⟨hg.os,hg.tape,hg.output⟩ hg.size hblk ?_ (by grind) (fun _=>hq) ?_
 ·intro b hb hold2
  refine hblk b (Nat.lt_of_lt_of_le hb h.hsize) (fun q=>?_)
  rcases h.new id b q with q2 | q2
  all_goals grind
 ·have hl2:=h2.length
  have hln:=hnew.1
  refine FK (Ak.kill_row _ _) ⟨by grind [Ia],v',by simp [Bo,Ak.kill_id],?_⟩
  rcases hnew.2 with ⟨q,h0⟩ | ⟨g,cap,cur,q,_,q2,q3,q4,q5,q6⟩
  ·simp_all [Bo,Value.ownBlock,Ak.kill_id]
  ·refine .inr ⟨g,cap,cur,q,by simp [Bo,q,Value.ownBlock,Ak.kill_id],q2,q3,q4,q5,?_⟩
   grind [Ai.of_list,A0,List.take_append_drop]
def Y5 (P:Program) (f:FuncId) (E:TypeId):Prop:=
 ∀ (w:World) (v:Value) (n i vb m vc:Nat) (xs us:List Value) (cur:Array Value) (T:TypeId) (row:Option Nat),
   (w.ownsRow 0 E 1 v n xs∧row=v.ownBlock∨ ∃ p,v= .slice (some p) 0 0∧n=0∧xs=[]∧row=none)→i≤n→0<m→(∀ u∈xs,u.oneCell'=true)→(∀ u∈us,u.oneCell'=true)→us.length=m→(n+m)*8≤140737488355328→m≤vc→cur.size=vc→
   row ≠ some vb→w.heap[vb]? =some (.cells cur T (0,0))→cur.toList.take m=us→
   Calls P f #[v, .int .i64 i, .slice (some ⟨vb,0,none⟩) m vc] w fun e w'=> ∃ v',e= .returned v'∧w'.ownsRow 0 E 1 v' (n+m) (xs.take i++us++xs.drop i)∧
    w.grownBy w' row∧(v'.ownBlock=row∨ ∀ b,v'.ownBlock=some b→w.heap.size≤b)
theorem Dk.ins {P:Program} {I:World→Prop} {o:Oper} {st:St} {K:St→Prop} {f:FuncId} {x y z:Operand} {r rv:Ae} {E len m:Nat} {cs ds:List C} {i:Int} (hk:A2 o.op= .call f [x,y,z]) (hent:ent P f=true) (hins:Y5 P f E)
 (hx: ∀ Fr a w G,R Fr st a w G→Ab w G (.c (.osl r)) (a.eval x)) (hy: ∀ Fr a w G,R Fr st a w G→Ab w G (.c (.int .i64 i)) (a.eval y)) (hz: ∀ Fr a w G,R Fr st a w G→Ab w G (.c (.osl rv)) (a.eval z))
 (hl:st.look r=some ⟨r,some (E,1,len),cs,true⟩) (hl2:st.look rv=some ⟨rv,some (E,1,m),ds,true⟩) (hne:r ≠ rv) (hi:0≤i∧i≤(len:Nat)) (hm:0<m) (hbig:(len+m)*8≤140737488355328)
 {s1:St} (hls:Bk (st.new ⟨r,some (E,1,len+m),cs.take i.toNat++ds++cs.drop i.toNat,true⟩) s1) (hK:K (s1.put o.dst (.c (.osl r)))):Dk P I o st K:=by
 intro F a w G Q hI hR
 have hr:=KH (a:=a) hk hent w
 unfold Oper.wp Oper.upon
 rw [hr]
 obtain⟨hm1, -⟩:=AK hl
 obtain⟨hm2, -⟩:=AK hl2
 have hxv:=hx F a w G hR
 have hyv:=hy F a w G hR
 have hzv:=hz F a w G hR
 simp only [Ab,Ac]at hxv hyv hzv
 obtain⟨v,xs,k1,k2,k3,k4⟩:=Cq (e:=⟨r,some (E,1,len),cs,true⟩) rfl (hR.store _ hm1)
 obtain⟨u,us,q1,q2,q3,q4⟩:=Cq (e:=⟨rv,some (E,1,m),ds,true⟩) rfl (hR.store _ hm2)
 have hxe:a.eval x=v:=by grind
 have hze:a.eval z=u:=by grind
 have hye:a.eval y= .int .i64 i:=hyv
 have harg:([x,y,z].map a.eval).toArray = #[v, .int .i64 i,u]:=by grind
 rw [harg]
 obtain⟨j,hj⟩: ∃ j:Nat,i=(j:Int):=(by grind)
 subst hj
 simp only [Int.toNat_natCast]at hls
 rcases q4 with ⟨q4,q5⟩ | ⟨p,_,q0,_⟩
 rotate_left
 ·omega
 rcases q4.2 with ⟨_,q0⟩ | ⟨vb,vc,cur,rfl,_,c1,c2,c3,c4,c5⟩
 ·omega
 simp only [Nat.mul_one]at c4 c5
 have hrv:G.blk rv=some vb:=q5.symm
 have hlx:xs.length=len:=by
  have h5:cs.length=len*1:=by have:=hR.store _ hm1;grind [AJ]
  have h6:cs.length=xs.length:=k3.length
  omega
 have hlu:us.length=m:=by grind
 have hold:(w.ownsRow 0 E 1 v len xs∧G.blk r=v.ownBlock∨ ∃ p,v= .slice (some p) 0 0∧len=0∧xs=[]∧G.blk r=none):=by
  grind
 refine(hins w v len j vb m vc xs us cur E (G.blk r) hold (by omega) hm (Ag.one k3) (Ag.one q3) hlu hbig c2 c4 (fun q=>hne (hR.inj _ _ _ q hrv)) c1 c5).mono fun e w' ⟨v',he,h1,h2,h3⟩=>?_
 subst he
 have hrel:Ag w G (cs.take j++ds++cs.drop j) (xs.take j++us++xs.drop j):=((k3.take j).append q3).append (k3.drop j)
 have hp:Aj (cs.take j++ds++cs.drop j)=true:=by
  have p1:Aj cs=true:=hR.pures _ hm1 rfl
  have p2:Aj ds=true:=hR.pures _ hm2 rfl
  grind [BI]
 have fin: ∃ G',R F (st.new ⟨r,some (E,1,len+m),cs.take j++ds++cs.drop j,true⟩) a w' G'∧G'.own r=some v'∧v'.oneCell'=true:=by
  rcases hold with ⟨g1,g2⟩ | ⟨p,g1,g2,g3,g4⟩
  ·exact R.remade hR hl hp g2.symm hrel g1 h1 (by grind) (by grind)
  ·rw [g4]at h2 h3
   exact R.remade hR hl (v:= .slice none 0 0) (len:=0) (xs:=[]) hp (by rw [g4];rfl) hrel ⟨by simp, .inl ⟨rfl,rfl⟩⟩ h1 h2 h3
 obtain⟨G',g1,g2,g3⟩:=fin
 exact⟨_,G',hK,(g1.less hls).put (by simp_all [Ab,Ac])⟩
end Go.PL
namespace Go.PL
open Go Go.RowKit
variable {T:AN}
inductive VT where
 | k (kd:Kd)
 | s (E:Nat)
 | f (g:FuncId)
def DL (T:AN):VT→Type
 | .k kd=>KZ T.den kd
 | .s E=>T.den E
 | .f _=>Unit
def jE (T:AN):(k:Kd)→KZ T.den k
 | .int _=>(default:Int)
 | .bool =>(default:Bool)
 | .str =>(default:List UInt8)
 | .lst E=>(default:List (T.den E))
def jF (T:AN):(t:VT)→DL T t
 | .k kd=>jE T kd
 | .s E=>(T.inh E).default
 | .f _=>()
def Jf:(t:VT)→DL T t→DV T
 | .k kd,x=> .c (.k kd x)
 | .s E,x=> .agg (TL E x)
 | .f g,_=> .c (.c (.fn g))
def DZ:(t:VT)→DL T t→V
 | .k kd,x=> .c (AQ T.enc kd x)
 | .s E,x=> .agg (T.enc E x)
 | .f g,_=> .c (.fn g)
theorem IV (t:VT) (x:DL T t):(Jf t x).toV =DZ t x:=by
 cases t with
 | k kd=>simp only [Jf,DV.toV,DC.toC,DZ]
 | s E=>exact congrArg V.agg (DY E x)
 | f g=>simp only [Jf,DV.toV,DC.toC,DZ]
theorem K9 {H:Am T} {nx:Nat} (t:VT) (x:DL T t):(Jf t x).ok H nx:=by
 cases t<;>grind [Jf,DV.ok,DC.ok,HE]
def oo:DV T→Option (DC T)
 | .c x=>some x
 | _=>none
def ot:DV T→Option (List (DC T))
 | .agg cs=>some cs
 | _=>none
def TR (kd:Kd) (v:DV T):Option (KZ T.den kd):=match oo v with
 | some x=>Fi false kd x
 | none=>none
def castVs' (E:Nat) (v:DV T):Option (T.den E):=match ot v with
 | some cs=>bZ false E cs
 | none=>none
def XU (g:FuncId):DV T→Option Unit
 | .c (.c (.fn g'))=>match Nat.beq g' g with
   | true=>some ()
   | false=>none
 | _=>none
def dG:(t:VT)→DV T→Option (DL T t)
 | .k kd,v=>TR kd v
 | .s E,v=>castVs' E v
 | .f g,v=>XU g v
theorem Wa {v:DV T} {x:DC T} (h:oo v=some x):v= .c x:=by
 unfold oo at h
 grind
theorem Wb {v:DV T} {x:List (DC T)} (h:ot v=some x):v= .agg x:=by
 unfold ot at h
 grind
theorem Y6 {kd:Kd} {v:DV T} {x:KZ T.den kd} (h:TR kd v=some x):v.toV= .c (AQ T.enc kd x):=by
 unfold TR at h
 split at h
 ·rename_i y hy
  rw [Wa hy]
  simp only [DV.toV,(BS h).2 rfl]
 ·cases h
theorem gS {E:Nat} {v:DV T} {x:T.den E} (h:castVs' E v=some x):v.toV= .agg (T.enc E x):=by
 unfold castVs' at h
 split at h
 ·rename_i y hy
  rw [Wb hy]
  simp only [DV.toV,(EQ h).2 rfl]
 ·cases h
theorem gT {g:FuncId} {v:DV T} {x:Unit} (h:XU g v=some x):v.toV= .c (.fn g):=by
 unfold XU at h
 grind [Nat.eq_of_beq_eq_true,DV.toV,DC.toC]
theorem Pv {t:VT} {v:DV T} {x:DL T t} (h:dG t v=some x):v.toV=DZ t x:=by
 cases t with
 | k kd=>exact Y6 h
 | s E=>exact gS h
 | f g=>exact gT h
def XS (T:AN):List VT→Type
 | []=>Unit
 | t::ts=>DL T t×XS T ts
def D0:(ts:List VT)→XS T ts→List V
 | [],_=>[]
 | t::ts,x=>DZ t x.1::D0 ts x.2
def Ma:(ts:List VT)→List (DV T)→Option (XS T ts)
 | [],[]=>some ()
 | t::ts,v::vs=>match dG t v,Ma ts vs with
   | some x,some y=>some (x,y)
   | _,_=>none
 | _,_=>none
theorem Nc: ∀ {ts:List VT} {vs:List (DV T)} {x:XS T ts},Ma ts vs=some x→AH vs=D0 ts x
 | [],[],x,_=>by simp only [AH,D0]
 | [],_::_,_,h=>by simp [Ma]at h
 | _::_,[],_,h=>by simp [Ma]at h
 | t::ts,v::vs,x,h=>by
   unfold Ma at h
   split at h
   ·rename_i a b h1 h2
    injection h with h;subst h
    simp only [AH,D0,Pv h1,Nc h2]
   ·cases h
def RT (T:AN):List VT→Type
 | []=>Unit
 | [t]=>DL T t
 | t::u::ts=>DL T t×RT T (u::ts)
def jG (T:AN):(ts:List VT)→RT T ts
 | []=>()
 | [t]=>jF T t
 | t::u::ts=>(jF T t,jG T (u::ts))
instance (ts:List VT):Inhabited (RT T ts):=⟨jG T ts⟩
def BA:(ts:List VT)→RT T ts→List (DV T)
 | [],_=>[]
 | [t],x=>[Jf t x]
 | t::u::ts,x=>Jf t x.1::BA (u::ts) x.2
def Mb:(ts:List VT)→RT T ts→DV T
 | [],_=> .tup []
 | [t],x=>Jf t x
 | t::u::ts,x=> .tup (BA (t::u::ts) x)
def CZ:(ts:List VT)→RT T ts→List V
 | [],_=>[]
 | [t],x=>[DZ t x]
 | t::u::ts,x=>DZ t x.1::CZ (u::ts) x.2
def GM:(ts:List VT)→RT T ts→V
 | [],_=> .tup []
 | [t],x=>DZ t x
 | t::u::ts,x=> .tup (CZ (t::u::ts) x)
theorem Pw: ∀ (ts:List VT) (x:RT T ts),AH (BA ts x)=CZ ts x
 | [],_=>by simp only [BA,AH,CZ]
 | [t],x=>congrArg (fun z=>[z]) (IV t x)
 | t::u::ts,x=>by simp only [BA,AH,CZ,IV,Pw (u::ts)]
theorem Iv: ∀ (ts:List VT) (x:RT T ts),(Mb ts x).toV =GM ts x
 | [],_=>by simp only [Mb,DV.toV,GM,AH]
 | [t],x=>IV t x
 | t::u::ts,x=>by simp only [Mb,DV.toV,GM,Pw]
theorem Mc {H:Am T} {nx:Nat}: ∀ (ts:List VT) (x:RT T ts),BR H nx (BA ts x)
 | [],_=>by simp only [BA,BR]
 | [t],x=>by simp only [BA,BR,and_true];exact K9 t x
 | t::u::ts,x=>by simp only [BA,BR,K9,Mc (u::ts),and_self]
theorem La {H:Am T} {nx:Nat}: ∀ (ts:List VT) (x:RT T ts),(Mb ts x).ok H nx
 | [],_=>by simp only [Mb,DV.ok,BR]
 | [t],x=>K9 t x
 | t::u::ts,x=>by grind [Mb,DV.ok,Mc]
def TS:Kd→Bool
 | .lst _=>false
 | _=>true
def Md (T:AN):VT→Bool
 | .k kd=>TS kd
 | .s E=>(T.ks E).all TS
 | .f _=>true
theorem Px {den:Nat→Type} {enc: ∀ E,den E→List C}: ∀ (ks:List Kd) (y:DK den ks),(Bf enc ks y).all C.flat=ks.all TS
 | [],_=>rfl
 | k::ks,y=>by
   simp only [Bf,List.all_cons,Px ks]
   cases k<;>rfl
theorem JM (t:VT) (x:DL T t):(DZ t x).flat =Md T t:=by
 cases t with
 | k kd=>cases kd<;>rfl
 | s E=>
   show (T.enc E (show T.den E from x)).all C.flat=(T.ks E).all TS
   rw [←T.encok,Px]
 | f g=>rfl
theorem Nd: ∀ (ts:List VT) (x:RT T ts),GH (CZ ts x)=ts.all (Md T)
 | [],_=>by simp [CZ,GH]
 | [t],x=>by simp only [CZ,GH,List.all_cons,List.all_nil,Bool.and_true];exact JM t x
 | t::u::ts,x=>by simp only [CZ,GH,JM,Nd (u::ts),List.all_cons]
theorem Hb: ∀ (ts:List VT) (x:RT T ts),(GM ts x).flat =ts.all (Md T)
 | [],_=>by simp [GM,V.flat,GH]
 | [t],x=>by simp only [GM,List.all_cons,List.all_nil,Bool.and_true];exact JM t x
 | t::u::ts,x=>by simp only [GM,V.flat,Nd]
def Y7 (m:Nat):(k:Kd)→KZ T.den k→List OE
 | .lst E,l=>match m with
   | 1=>[⟨false,E,T.sz E,List.length l,List.flatMap (T.enc E) l⟩]
   | 2=>[⟨true,E,T.sz E,List.length l,As T E (List.length l:Nat) 0 l⟩]
   | _=>[]
 | _,_=>[]
def Wc (m:Nat):Kd→Nat
 | .lst _=>match m with
   | 1=>1
   | 2=>1
   | _=>0
 | _=>0
def Y8 (m j:Nat) (k:Kd) (x:KZ T.den k):PC:=match Wc m k with
 | 0=> .c (AQ T.enc k x)
 | _=> .o j
def Py (m:Nat) (id:Ae) (k:Kd):List Ae:=match Wc m k with
 | 0=>[]
 | _=>match m with
   | 2=>[1000003::id]
   | _=>[id]
def Iw:List Nat→(ks:List Kd)→DK T.den ks→List OE
 | m::ms,k::ks,x=>Y7 m k x.1++Iw ms ks x.2
 | _,_,_=>[]
def Nf:List Nat→Nat→(ks:List Kd)→DK T.den ks→List PC
 | m::ms,j,k::ks,x=>Y8 m j k x.1::Nf ms (j+Wc m k) ks x.2
 | [],j,k::ks,x=> .c (AQ T.enc k x.1)::Nf [] j ks x.2
 | _,_,[],_=>[]
def Hc:List Nat→Nat→Ae→List Kd→List Ae
 | m::ms,i,suf,k::ks=>Py m (i::suf) k++Hc ms (i+1) suf ks
 | _,_,_,_=>[]
def Y9:List Nat→List Kd→Nat
 | m::ms,k::ks=>Wc m k+Y9 ms ks
 | _,_=>0
def HG (T:AN):VT→List Kd
 | .k kd=>[kd]
 | .s E=>T.ks E
 | .f _=>[]
def TT:(t:VT)→DL T t→DK T.den (HG T t)
 | .k _,x=>(x,())
 | .s E,x=>T.un E x
 | .f _,_=>()
def Ng (m:List Nat) (j:Nat):(t:VT)→DL T t→PP
 | .k kd,x=> .c (Y8 (m.headD 0) j kd x)
 | .s E,x=> .a (Nf m j (T.ks E) (T.un E x))
 | .f g,_=> .c (.c (.fn g))
def Nh:List (List Nat)→(ts:List VT)→RT T ts→List OE
 | m::_,[t],x=>Iw m (HG T t) (TT t x)
 | m::ms,t::u::ts,x=>Iw m (HG T t) (TT t x.1)++Nh ms (u::ts) x.2
 | _,_,_=>[]
def Gz:List (List Nat)→Nat→(ts:List VT)→RT T ts→List PP
 | m::_,j,[t],x=>[Ng m j t x]
 | [],j,[t],x=>[Ng [] j t x]
 | m::ms,j,t::u::ts,x=>Ng m j t x.1::Gz ms (j+Y9 m (HG T t)) (u::ts) x.2
 | [],j,t::u::ts,x=>Ng [] j t x.1::Gz [] j (u::ts) x.2
 | _,_,[],_=>[]
def Pz (T:AN):List (List Nat)→Nat→Ae→List VT→List Ae
 | m::ms,p,suf,t::ts=>Hc m 0 (p::suf) (HG T t)++Pz T ms (p+1) suf ts
 | _,_,_,_=>[]
structure CE (T:AN) (P:Program) (I:World→Prop) where
 f:FuncId
 ps:List VT
 rs:List VT
 run:XS T ps→Option (RT T rs)
 ok: ∀ x r,run x=some r→Bp P I f (D0 ps x) (· =GM rs r)
 ow:List (List Nat):=[]
 okx:ow ≠ []→ ∀ x r,run x=some r→XP P I f (D0 ps x) (Nh ow rs r) (Gz ow 0 rs r):=by exact fun h=>absurd rfl h
 ins:Option TypeId:=none
 insok: ∀ E,ins=some E→Y5 P f E:=by exact fun _ h=>nomatch h
 tab:Option (Nat×List (List UInt8)):=none
 tabok: ∀ g t,tab=some (g,t)→TJ I g t:=by exact fun _ _ h=>nomatch h
def JN {P:Program} {I:World→Prop} (f:FuncId) (ws:List (DV T)):List (CE T P I)→Option ((e:CE T P I)×XS T e.ps)
 | []=>none
 | e::r=>match Nat.beq e.f f with
   | true=>match Ma e.ps ws with
     | some x=>some ⟨e,x⟩
     | none=>JN f ws r
   | false=>JN f ws r
theorem DM {P:Program} {I:World→Prop} {f:FuncId} {ws:List (DV T)}: ∀ {l:List (CE T P I)} {e:CE T P I} {x:XS T e.ps},JN f ws l=some ⟨e,x⟩→e.f=f∧AH ws=D0 e.ps x
 | [],_,_,h=>by cases h
 | a::r,e,x,h=>by
   unfold JN at h
   split at h
   ·rename_i hb
    split at h
    ·rename_i y hy
     injection h with h
     injection h with h1 h2
     subst h1
     have h2:=eq_of_heq h2
     grind [Nat.eq_of_beq_eq_true,Nc]
    ·exact DM h
   ·exact DM h
def TU (st:Ad T) (c:DC T):Option (DC T):=match Ir c with
 | some id=>match CJ st id with
   | some ⟨E,l⟩=>some (.k (.lst E) l)
   | none=>none
 | none=>some (Po c)
def PA (st:Ad T):List (DC T)→Option (List (DC T))
 | []=>some []
 | c::cs=>match TU st c,PA st cs with
   | some d,some ds=>some (d::ds)
   | _,_=>none
def TV (st:Ad T):DV T→Option (DV T)
 | .c x=>match TU st x with
   | some y=>some (.c y)
   | none=>none
 | .agg cs=>match PA st cs with
   | some ds=>some (.agg ds)
   | none=>none
 | _=>none
def HH (st:Ad T):List (DV T)→Option (List (DV T))
 | []=>some []
 | v::vs=>match TV st v,HH st vs with
   | some d,some ds=>some (d::ds)
   | _,_=>none
def Za (c:DC T):List Ae:=match Ir c with
 | some id=>[id]
 | none=>[]
def Sl:List (DC T)→List Ae
 | []=>[]
 | c::cs=>Za c++Sl cs
def Zb:DV T→List Ae
 | .c x=>Za x
 | .agg cs=>Sl cs
 | _=>[]
def Lb:List (DV T)→List Ae
 | []=>[]
 | v::vs=>Zb v++Lb vs
theorem HI {c:DC T} (h:Ir c=none): ∀ id,c.toC ≠ .osl id:=fun i he=>by
 cases c with
 | c x=>grind [DC.toC,Ir]
 | k kd x=>cases kd<;>simp [DC.toC,AQ]at he
 | ip=>simp [DC.toC]at he
 | rp=>simp [DC.toC]at he
 | ap=>simp [DC.toC]at he
 | bs=>simp [DC.toC]at he
 | clo b f cs=>cases b<;>simp [DC.toC]at he
theorem Ni {st:Ad T} {c d:DC T} (h:TU st c=some d):Gw st.toSt c.toC=d.toC:=by
 unfold TU at h
 split at h
 ·rename_i id ho
  have:=Dt ho
  subst this
  split at h
  ·rename_i E l hr
   injection h with h;subst h
   simp only [DC.toC,Gw,(Be hr).1,AQ,if_true]
  ·cases h
 ·rename_i ho
  injection h with h;subst h
  rw [Pp]
  have:=HI ho
  cases hc:c.toC<;>simp only [Gw,Ed]
  grind
theorem Nj {st:Ad T}: ∀ {cs ds:List (DC T)},PA st cs=some ds→(Al cs).map (Gw st.toSt)=Al ds
 | [],ds,h=>by grind [PA,Al]
 | c::cs,ds,h=>by
   unfold PA at h
   split at h
   ·rename_i d ds' h1 h2
    injection h with h;subst h
    simp only [Al,List.map_cons,Ni h1,Nj h2]
   ·cases h
theorem Nk {st:Ad T} {v w:DV T} (h:TV st v=some w):A1 st.toSt v.toV=w.toV:=by
 unfold TV at h
 grind [DV.toV,A1,Ni,Nj]
theorem D1 {st:Ad T}: ∀ {vs ws:List (DV T)},HH st vs=some ws→(AH vs).map (A1 st.toSt)=AH ws
 | [],ws,h=>by grind [HH,AH]
 | v::vs,ws,h=>by
   unfold HH at h
   split at h
   ·rename_i d ds' h1 h2
    injection h with h;subst h
    simp only [AH,List.map_cons,Nk h1,D1 h2]
   ·cases h
theorem PB (c:DC T):KG c.toC=Za c:=by
 unfold Za
 split
 ·rename_i id ho
  rw [Dt ho]
  simp only [DC.toC,KG]
 simp_all [HI,KG]
theorem PD: ∀ cs:List (DC T),(Al cs).flatMap KG=Sl cs
 | []=>by simp [Al,Sl]
 | c::cs=>by simp only [Al,List.flatMap_cons,PB,PD cs,Sl]
theorem XV (v:DV T):cg v.toV=Zb v:=by
 cases v<;>grind [DV.toV,cg,Zb,PB,PD]
theorem Dw: ∀ vs:List (DV T),B0 (AH vs)=Lb vs
 | []=>by simp [AH,B0,Lb]
 | v::vs=>by
   have:=Dw vs
   simp only [B0]at this ⊢
   simp only [AH,List.flatMap_cons,XV,this,Lb]
theorem Cv (t:VT) (x:DL T t):(DZ t x).pure =true:=by
 cases t with
 | k kd=>grind [DZ,V.pure,O1]
 | s E=>grind [DZ,V.pure,O3]
 | f g=>rfl
theorem F8: ∀ (ts:List VT) (x:XS T ts),Bv (D0 ts x)=true
 | [],_=>by simp only [D0,Bv]
 | t::ts,x=>by simp only [D0,Bv,Cv,F8 ts,Bool.and_self]
theorem Ad.arg_val {st:Ad T} {key:List GL} {x:Operand} {v:DV T} (h:st.arg key x=some v) (g:Bool):(st.toSt.arg g x).2=v.toV:=by
 have e:=st.ev_toSt x
 unfold Ad.arg at h
 unfold St.arg
 split at h
 ·grind [DV.toV]
 ·rename_i hne
  injection h with h;subst h
  rw [e]
  cases hv:st.ev x<;>grind [DV.toV]
theorem Me {st:Ad T} {key:List GL} (g:Bool): ∀ {xs:List Operand} {vs:List (DV T)},Fj st key xs=some vs→(st.toSt.args g xs).2=AH vs
 | [],vs,h=>by grind [Fj,St.args,AH]
 | x::xs,vs,h=>by
   unfold Fj at h
   split at h
   ·rename_i v vs' h1 h2
    injection h with h;subst h
    simp only [St.args,AH,Ad.arg_val h1 g,Me g h2]
   ·cases h
def Sm {P:Program} {I:World→Prop} (Γ:List (CE T P I)) (key:List GL) (st:Ad T) (f:FuncId) (xs:List Operand) (d:Option Nat):M (Ad T):=
 match Fj st key xs with
 | some vs=>match HH st vs with
   | some ws=>match JN f ws Γ with
     | some ⟨e,x⟩=> .opt (gk key (e.run x)) fun r=>match key with
       | []=>match e.rs.all (Md T)with
         | true=> .ret (st.put d (Mb e.rs r))
         | false=>match Lb vs with
           | []=> .ret (st.put d (Mb e.rs r))
           | [id]=>match st.frz id with
             | some s=> .ret (s.put d (Mb e.rs r))
             | none=> .no
           | _=> .no
       | l::ls=>match e.rs.all (Md T),Lb vs with
         | true,_=> .ret (st.put d (.g (l::ls) (Mb e.rs r)))
         | false,[]=> .ret (st.put d (.g (l::ls) (Mb e.rs r)))
         | _,_=> .no
     | none=> .no
   | none=> .no
 | none=> .no
def dH (H:Am T) (P:Program) (I:World→Prop) (ops:Array Oper) (st:Ad T) (o:Oper) (st':Ad T):Prop:=
 (∃ H',Nx H st H' st')∧st'.pre=st.pre∧ ∀ K:St→Prop,K st'.toSt→RC P I ops o st.toSt K
section
variable {H:Am T} {P:Program} {I:World→Prop} {Γ:List (CE T P I)} {st:Ad T}
theorem aP (hw:Av H st) {f:FuncId} {xs:List Operand} {o:Oper} (hk:A2 o.op= .call f xs):
 Yl (Sm Γ [] st f xs o.dst) (fun st'=>(∃ H',Nx H st H' st')∧st'.pre=st.pre∧ ∀ K:St→Prop,K st'.toSt→Z0 P I o st.toSt K):=by
 unfold Sm
 split
 ·rename_i vs hvs
  split
  ·rename_i ws hws
   split
   ·rename_i e x hx
    obtain⟨he,hx⟩:=DM hx
    refine Yl.opt fun r hr=>?_
    obtain⟨a1,a2,a3⟩:=Cg (key:=[]) hw (fun _ hl=>by cases hl) rfl hvs
    change (st.toSt.args true xs).1 at a2
    change (st.toSt.args true xs).2=AH vs at a3
    have hp:=e.ok x r (K1 hr rfl)
    rw [he]at hp
    have hs:(AH vs).map (A1 st.toSt)=D0 e.ps x:=by rw [D1 hws,hx]
    have base: ∀ st':Ad T,((GM e.rs r).flat =true∨(B0 (AH vs)).length ≤1∧ ∀ id∈B0 (AH vs),st.toSt.okFrz id=true)→st'.toSt=st.toSt.after (B0 (AH vs)) o.dst (GM e.rs r)→ ∀ K:St→Prop,K st'.toSt→Z0 P I o st.toSt K:=by
     intro st' h1 h2 K hK
     refine .inr ?_
     grind [F8]
    simp only
    split
    ·rename_i hf
     refine Yl.ret ⟨Ad.put_nx hw _ (La _ _),AB _ _ _,base _ (.inl (by rw [Hb];exact hf)) ?_⟩
     simp_all [Ad.put_toSt,Iv,St.after,Hb]
    ·rename_i hf
     have hnf: ¬(GM e.rs r).flat =true:=by rw [Hb,hf];simp
     split
     ·rename_i ht
      refine Yl.ret ⟨Ad.put_nx hw _ (La _ _),AB _ _ _,base _ (.inr (by rw [Dw,ht];simp)) ?_⟩
      simp_all [Ad.put_toSt,Iv,Dw,St.after]
     ·rename_i id ht
      split
      ·rename_i s hs'
       obtain⟨⟨H1,hN⟩,h2,h3,h4⟩:=Ad.frz_spec hw hs'
       refine Yl.ret ⟨Ad.put_spec hN _ (La _ _),by rw [AB];exact h4,base _ (by grind [Dw]) ?_⟩
       simp_all [Ad.put_toSt,Iv,Dw,St.after]
      ·exact Yl.no
     ·exact Yl.no
   ·exact Yl.no
  ·exact Yl.no
 ·exact Yl.no
theorem Hd {H:Am T} {st:Ad T} {key:List GL} (hw:Av H st) (hk:Df H st.nx key) (d:Option Nat) {v:DV T} (hv:AF key=true→v.ok H st.nx): ∃ H',Nx H st H' (st.put d (.g key v)):=
 Ad.put_nx hw d (by simp only [DV.ok];exact⟨hk,hv⟩)
theorem aQ (hw:Av H st) {f:FuncId} {xs:List Operand} {o:Oper} {key:List GL} (hk:A2 o.op= .call f xs) (hkey:Df H st.nx key) (hne:key ≠ []):
 Yl (Sm Γ key st f xs o.dst) (fun st'=>(∃ H',Nx H st H' st')∧st'.pre=st.pre∧ ∀ K:St→Prop,K st'.toSt→jR P I o st.toSt (AF key) K):=by
 unfold Sm
 split
 ·rename_i vs hvs
  split
  ·rename_i ws hws
   split
   ·rename_i e x hx
    obtain⟨he,hx⟩:=DM hx
    refine Yl.opt fun r hr=>?_
    have hs:(AH vs).map (A1 st.toSt)=D0 e.ps x:=by rw [D1 hws,hx]
    have base:((GM e.rs r).flat =true∨Lb vs=[])→ ∀ K:St→Prop,K (st.put o.dst (.g key (Mb e.rs r))).toSt →jR P I o st.toSt (AF key) K:=by
     intro h1 K hK
     refine .inr ?_
     rw [hk]
     simp only
     rw [Me _ hvs,hs,Dw]
     rw [Ad.put_toSt]at hK
     refine⟨fun hc=>?_,GM e.rs r,h1,fun hc=>?_,by grind [DV.toV,Iv]⟩
     ·obtain⟨a1,a2,a3⟩:=Cg hw hkey hc hvs
      grind [F8]
     ·have hp:=e.ok x r (K1 hr hc)
      grind
    split
    ·grind
    ·rename_i l ls
     split
     all_goals simp_all [Yl.ret,Hd,La,AB,Hb,Yl.no]
   ·exact Yl.no
  ·exact Yl.no
 ·exact Yl.no
end
end Go.PL
namespace Go.PL
open Go Go.RowKit
variable {T:AN}
def kM (n:Nat) (want b:Bool):GL:=⟨n,want,b==want⟩
def PE (st:Ad T) (ops:Array Oper) (j:Nat) (want:Bool):Option (List GL):=
 match ops[j]? with
 | some p=>match p.dst with
   | some t=>match O8 st (.tmp t),st.get t with
     | n+1, .c (.k .bool b)=>some [kM n want b]
     | n+1, .g k (.c (.k .bool b))=>some (kM n want b::k)
     | _,_=>none
   | none=>none
 | none=>none
theorem Ix {H:Am T} {st:Ad T} {ops:Array Oper} {j:Nat} {want:Bool} {key:List GL} (hw:Av H st) (h:PE st ops j want=some key):EG st.toSt ops j want=some (AF key)∧Df H st.nx key∧key ≠ []:=by
 unfold PE at h
 unfold EG
 split at h
 ·rename_i p hp
  split at h
  ·rename_i t ht
   simp only [hp,ht]
   have hg:=st.get_toSt t
   have hok:=Ad.get_ok hw t
   have tg: ∀ n,O8 st (.tmp t)=n+1→n<st.nx∧H.v n=st.get t:=by
    intro n hn
    unfold O8 at hn
    simp only at hn
    split at hn
    ·rename_i hb
     have:=OW hw.tm hn
     grind [Ad.get]
    ·cases hn
   split at h
   ·rename_i n b hn hv
    injection h with h;subst h
    obtain⟨q1,q2⟩:=tg n hn
    rw [hv]at hg
    refine⟨by rw [hg];rfl,fun l hl=>?_,by simp⟩
    simp only [List.mem_singleton]at hl
    subst hl
    exact⟨q1,by show (_==_)=(TK (H.v n)==_);rw [q2,hv];rfl⟩
   ·rename_i n k b hn hv
    injection h with h;subst h
    obtain⟨q1,q2⟩:=tg n hn
    rw [hv]at hg hok
    simp only [DV.ok]at hok
    refine⟨?_,fun l hl=>?_,by simp⟩
    ·rw [hg]
     simp only [DV.toV,DC.toC,AQ]
     cases k<;>grind [AF,kM]
    ·rcases List.mem_cons.1 hl with rfl | hl
     ·exact⟨q1,by show (_==_)=(TK (H.v n)==_);rw [q2,hv];rfl⟩
     grind
   ·cases h
  ·cases h
 ·cases h
def nc:DV T→Option Ae
 | .c x=>Ir x
 | _=>none
def mE {P:Program} {I:World→Prop} (Γ:List (CE T P I)) (ops:Array Oper) (o:Oper) (st:Ad T):M (Ad T):=
 match o.guard with
 | none=>match A2 o.op with
   | .rd => .bnd (G6 P [] st o.op) fun v=> .ret (st.put o.dst v)
   | .ef =>aI P st o
   | .call f xs=>Sm Γ [] st f xs o.dst
   | .cut x=>match st.arg [] x with
     | some u=>match nc u with
       | some id=>match st.frz id with
         | some s=> .bnd (G6 P [] s o.op) fun v=> .ret (s.put o.dst v)
         | none=> .no
       | none=> .bnd (G6 P [] st o.op) fun v=> .ret (st.put o.dst v)
     | none=> .no
   | .no => .no
 | some (j,want)=>match PE st ops j want with
   | some key=>match A2 o.op with
     | .rd => .bnd (G6 P key st o.op) fun v=> .ret (st.put o.dst (.g key v))
     | .call f xs=>Sm Γ key st f xs o.dst
     | _=> .no
   | none=> .no
section
variable {H:Am T} {P:Program} {I:World→Prop} {Γ:List (CE T P I)} {st:Ad T} {ops:Array Oper}
theorem He (H:Am T) (n:Nat):Df H n []:=fun _ hl=>by cases hl
theorem Hf (hw:Av H st) {o:Oper} {Φ:Ad T→Prop} (h: ∀ v:DV T,v.ok H st.nx→(CA P st.toSt true o.op).1→(CA P st.toSt true o.op).2=v.toV→Φ (st.put o.dst v)):Yl (M.bnd (G6 P [] st o.op) fun v=> .ret (st.put o.dst v)) Φ:=
 Yl.bnd (G7 hw (He _ _) o.op) fun v hv=>by
  obtain⟨a,b,c⟩:=hv rfl
  exact Yl.ret (h v a b c)
theorem TW (hw:Av H st) (o:Oper):Yl (mE Γ ops o st) (dH H P I ops st o):=by
 unfold mE
 split
 ·rename_i hg
  have W: ∀ {st':Ad T},((∃ H',Nx H st H' st')∧st'.pre=st.pre∧ ∀ K:St→Prop,K st'.toSt→Z0 P I o st.toSt K)→dH H P I ops st o st':=fun⟨a,b,c⟩=>⟨a,b,fun K hK=>by unfold RC;rw [hg];exact c K hK⟩
  split
  ·rename_i hk
   refine Hf hw fun v hv h1 h2=>W ⟨Ad.put_nx hw _ hv,AB _ _ _,fun K hK=> .inr ?_⟩
   grind [Ad.put_toSt]
  ·rename_i hk
   refine(NX hw o).mono fun st' h=>?_
   obtain⟨h1,h2,h3,h4⟩:=h
   refine W ⟨h1,h4,fun K hK=> .inl fun F a w G Q hI hR=>?_⟩
   obtain⟨nx,w',G',q1,q2⟩:=(KB hR h2).out
   unfold Oper.wp Oper.upon
   rw [q1]
   rcases q2 with ⟨v,rfl,q3⟩ | ⟨rfl,q3⟩
   ·exact⟨_,G',hK,q3.less h3⟩
   ·exact⟨_,G',hK,q3.less h3⟩
  ·rename_i f xs hk
   exact(aP hw hk).mono fun st' h=>W h
  ·rename_i x hk
   split
   ·rename_i u hx
    obtain⟨a1,a2,a3⟩:=Ev hw hx
    split
    ·rename_i id ho
     have hu:u= .c (.c (.osl id)):=by
      unfold nc at ho
      grind [Dt]
     split
     ·rename_i s hs
      obtain⟨⟨H1,hN⟩,h2,h3,h4⟩:=Ad.frz_spec hw hs
      have hcut:st.toSt.cutAt true x=s.toSt:=by
       grind [St.cutAt,DV.toV,DC.toC]
      refine Hf hN.ok fun v hv q1 q2=>W ⟨Ad.put_spec hN _ hv,by rw [AB];exact h4,fun K hK=> .inr ?_⟩
      grind [Ad.put_toSt]
     ·exact Yl.no
    ·rename_i ho
     have hcut:st.toSt.cutAt true x=st.toSt:=by
      unfold St.cutAt
      rw [a3]
      split
      ·rename_i id he
       exfalso
       cases u with
       | c y=>
         simp only [DV.toV,V.c.injEq]at he
         exact HI ho id he
       | _=>simp [DV.toV]at he
      ·rfl
     refine Hf hw fun v hv q1 q2=>W ⟨Ad.put_nx hw _ hv,AB _ _ _,fun K hK=> .inr ?_⟩
     grind [Ad.put_toSt]
   ·exact Yl.no
  ·exact Yl.no
 ·rename_i j want hg
  split
  ·rename_i key hkey
   obtain⟨g1,g2,g3⟩:=Ix hw hkey
   have W: ∀ {st':Ad T},((∃ H',Nx H st H' st')∧st'.pre=st.pre∧ ∀ K:St→Prop,K st'.toSt→jR P I o st.toSt (AF key) K)→dH H P I ops st o st':=fun⟨a,b,c⟩=>⟨a,b,fun K hK=>by unfold RC;rw [hg];simp only [g1];exact c K hK⟩
   split
   ·rename_i hk
    refine Yl.bnd (G7 hw g2 o.op) fun v hv=>Yl.ret (W ⟨Hd hw g2 _ (fun hc=>(hv hc).1),AB _ _ _,fun K hK=> .inr ?_⟩)
    rw [hk]
    refine⟨v.toV,fun hc=>(hv hc).2,?_⟩
    grind [Ad.put_toSt,DV.toV]
   ·rename_i f xs hk
    exact(aQ hw hk g2 g3).mono fun st' h=>W h
   ·exact Yl.no
  ·exact Yl.no
def ne {P:Program} {I:World→Prop} (Γ:List (CE T P I)) (ops:Array Oper):List Oper→Ad T→M (Ad T)
 | [],st=> .ret st
 | o::rest,st=> .bnd (mE Γ ops o st) fun st'=>ne Γ ops rest st'
theorem gU: ∀ (l:List Oper) (st:Ad T) (H:Am T),Av H st→Yl (ne Γ ops l st) (fun st'=>(∃ H',Nx H st H' st')∧st'.pre=st.pre∧ ∀ K:St→Prop,K st'.toSt→Dd P I ops l st.toSt K)
 | [],st,H,hw=>Yl.ret ⟨⟨H,Nx.refl hw⟩,rfl,fun _ hK=>hK⟩
 | o::rest,st,H,hw=>Yl.bnd (TW hw o) fun s hs=>by
   obtain⟨⟨H1,h1⟩,h2,h3⟩:=hs
   refine(gU rest s H1 h1.ok).mono fun s' hs'=>?_
   obtain⟨⟨H2,k1⟩,k2,k3⟩:=hs'
   exact⟨⟨H2,h1.trans k1⟩,k2.trans h2,fun K hK=>h3 _ (k3 K hK)⟩
def TX {P:Program} {I:World→Prop} (Γ:List (CE T P I)) (key:List GL) (st:Ad T) (f:FuncId) (xs:List Operand):M (DV T):=
 match Fj st key xs with
 | some vs=>match HH st vs with
   | some ws=>match JN f ws Γ with
     | some ⟨e,x⟩=>mIf (e.rs.all (Md T)) (.opt (gk key (e.run x)) fun r=> .ret (Mb e.rs r))
     | none=> .no
   | none=> .no
 | none=> .no
def kN {P:Program} {I:World→Prop} (Γ:List (CE T P I)) (ops:Array Oper) (o:Oper) (st:Ad T):M (Ad T):=
 match o.guard with
 | none=>match A2 o.op with
   | .rd => .bnd (G6 P [] st o.op) fun v=> .ret (st.put o.dst v)
   | .call f xs=> .bnd (TX Γ [] st f xs) fun v=> .ret (st.put o.dst v)
   | .cut _=> .bnd (G6 P [] st o.op) fun v=> .ret (st.put o.dst v)
   | _=> .no
 | some (j,want)=>match PE st ops j want with
   | some key=>match A2 o.op with
     | .rd => .bnd (G6 P key st o.op) fun v=> .ret (st.put o.dst (.g key v))
     | .call f xs=> .bnd (TX Γ key st f xs) fun v=> .ret (st.put o.dst (.g key v))
     | .cut _=> .bnd (G6 P key st o.op) fun v=> .ret (st.put o.dst (.g key v))
     | _=> .no
   | none=> .no
theorem Sn {key:List GL} (hw:Av H st) (hk:Df H st.nx key) {f:FuncId} {xs:List Operand}:
 Yl (TX Γ key st f xs) (fun v=>(∀ n,v.ok H n)∧v.toV.flat=true∧(AF key=true→(st.toSt.args (AF key) xs).1∧Bv ((st.toSt.args (AF key) xs).2.map (A1 st.toSt))=true)∧(AF key=true→Bp P I f ((st.toSt.args (AF key) xs).2.map (A1 st.toSt)) (· =v.toV))):=by
 unfold TX
 split
 ·rename_i vs hvs
  split
  ·rename_i ws hws
   split
   ·rename_i e x hx
    obtain⟨he,hx⟩:=DM hx
    refine Yl.mIf fun hf=>Yl.opt fun r hr=>Yl.ret ?_
    have hs:(AH vs).map (A1 st.toSt)=D0 e.ps x:=by rw [D1 hws,hx]
    rw [Me _ hvs,hs,Iv]
    refine⟨fun n=>La _ _,by rw [Hb];exact hf,fun hc=>⟨(Cg hw hk hc hvs).2.1,F8 _ _⟩,fun hc=>?_⟩
    have hp:=e.ok x r (K1 hr hc)
    grind
   ·exact Yl.no
  ·exact Yl.no
 ·exact Yl.no
theorem gV (hw:Av H st) (o:Oper):Yl (kN Γ ops o st) (fun st'=>(∃ H',Nx H st H' st')∧st'.pre=st.pre∧ ∀ K:St→Prop,K st'.toSt→fT P I ops o st.toSt K):=by
 unfold kN
 split
 ·rename_i hg
  have W: ∀ {st':Ad T},((∃ H',Nx H st H' st')∧st'.pre=st.pre∧ ∀ K:St→Prop,K st'.toSt→je P I o st.toSt K)→(∃ H',Nx H st H' st')∧st'.pre=st.pre∧ ∀ K:St→Prop,K st'.toSt→fT P I ops o st.toSt K:=(by grind [fT])
  split
  ·rename_i hk
   refine Hf hw fun v hv h1 h2=>W ⟨Ad.put_nx hw _ hv,AB _ _ _,fun K hK=>?_⟩
   grind [je,Ad.put_toSt]
  ·rename_i f xs hk
   refine Yl.bnd (Sn hw (He _ _)) fun v hv=>Yl.ret (W ⟨Ad.put_nx hw _ (hv.1 _),AB _ _ _,fun K hK=>?_⟩)
   obtain⟨q1,q2,q3,q4⟩:=hv
   unfold je
   rw [hk]
   exact⟨(q3 rfl).1,(q3 rfl).2,v.toV,q2,q4 rfl,by grind [Ad.put_toSt]⟩
  ·rename_i x hk
   refine Hf hw fun v hv h1 h2=>W ⟨Ad.put_nx hw _ hv,AB _ _ _,fun K hK=>?_⟩
   grind [je,Ad.put_toSt]
  ·exact Yl.no
 ·rename_i j want hg
  split
  ·rename_i key hkey
   obtain⟨g1,g2,g3⟩:=Ix hw hkey
   have W: ∀ {st':Ad T},((∃ H',Nx H st H' st')∧st'.pre=st.pre∧ ∀ K:St→Prop,K st'.toSt→jf P I o st.toSt (AF key) K)→(∃ H',Nx H st H' st')∧st'.pre=st.pre∧ ∀ K:St→Prop,K st'.toSt→fT P I ops o st.toSt K:=(by simp_all [fT])
   split
   ·rename_i hk
    refine Yl.bnd (G7 hw g2 o.op) fun v hv=>Yl.ret (W ⟨Hd hw g2 _ (fun hc=>(hv hc).1),AB _ _ _,fun K hK=>?_⟩)
    unfold jf
    rw [hk]
    refine⟨v.toV,fun hc=>(hv hc).2,?_⟩
    grind [Ad.put_toSt,DV.toV]
   ·rename_i f xs hk
    refine Yl.bnd (Sn hw g2) fun v hv=>Yl.ret (W ⟨Hd hw g2 _ (fun _=>hv.1 _),AB _ _ _,fun K hK=>?_⟩)
    grind [jf,Ad.put_toSt,DV.toV]
   ·rename_i x hk
    refine Yl.bnd (G7 hw g2 o.op) fun v hv=>Yl.ret (W ⟨Hd hw g2 _ (fun hc=>(hv hc).1),AB _ _ _,fun K hK=>?_⟩)
    unfold jf
    rw [hk]
    refine⟨v.toV,fun hc=>(hv hc).2,?_⟩
    grind [Ad.put_toSt,DV.toV]
   ·exact Yl.no
  ·exact Yl.no
def dJ {P:Program} {I:World→Prop} (Γ:List (CE T P I)) (ops:Array Oper):List Oper→Ad T→M (Ad T)
 | [],st=> .ret st
 | o::rest,st=> .bnd (kN Γ ops o st) fun st'=>dJ Γ ops rest st'
theorem Wd: ∀ (l:List Oper) (st:Ad T) (H:Am T),Av H st→Yl (dJ Γ ops l st) (fun st'=>(∃ H',Nx H st H' st')∧st'.pre=st.pre∧ ∀ K:St→Prop,K st'.toSt→MM P I ops l st.toSt K)
 | [],st,H,hw=>Yl.ret ⟨⟨H,Nx.refl hw⟩,rfl,fun _ hK=>hK⟩
 | o::rest,st,H,hw=>Yl.bnd (gV hw o) fun s hs=>by
   obtain⟨⟨H1,h1⟩,h2,h3⟩:=hs
   refine(Wd rest s H1 h1.ok).mono fun s' hs'=>?_
   obtain⟨⟨H2,k1⟩,k2,k3⟩:=hs'
   exact⟨⟨H2,h1.trans k1⟩,k2.trans h2,fun K hK=>h3 _ (k3 K hK)⟩
end
end Go.PL
namespace Go.PL
open Go Go.RowKit
variable {T:AN}
def PF (v v':V):Prop:= ∀ (w:World) (G:Au) (u:Value),Ab w G v u→Ab w G v' u
def QN (c c':C):Prop:= ∀ (w:World) (G:Au) (u:Value),Ac w G c u→Ac w G c' u
def C1:List C→List C→Prop
 | [],[]=>True
 | c::cs,d::ds=>QN c d∧C1 cs ds
 | _,_=>False
theorem QN.refl (c:C):QN c c:=fun _ _ _ h=>h
theorem PF.refl (c:V):PF c c:=fun _ _ _ h=>h
theorem QN.weak {c d:C} (h:Ed c=d):QN c d:=fun _ _ _ hr=>h▸G4 hr
theorem C1.length: ∀ {cs ds:List C},C1 cs ds→cs.length=ds.length
 | [],[],_=>rfl
 | [],_::_,h=>h.elim
 | _::_,[],h=>h.elim
 | c::cs,d::ds,h=>by simp [C1.length h.2]
theorem C1.append: ∀ {a b x y:List C},C1 a b→C1 x y→C1 (a++x) (b++y)
 | [],[],_,_,_,h=>h
 | [],_::_,_,_,h,_=>h.elim
 | _::_,[],_,_,h,_=>h.elim
 | c::cs,d::ds,_,_,h,k=>⟨h.1,C1.append h.2 k⟩
theorem C1.weak: ∀ {cs ds:List C},cs.map Ed=ds→C1 cs ds
 | [],ds,h=>by simp at h;subst h;trivial
 | c::cs,ds,h=>by
   subst h
   exact⟨QN.weak rfl,C1.weak rfl⟩
theorem C1.refl: ∀ cs:List C,C1 cs cs
 | []=>trivial
 | c::cs=>⟨QN.refl c,C1.refl cs⟩
theorem Ai.imp {w:World} {G:Au}: ∀ {cs ds:List C} {b off:Nat},C1 cs ds→Ai w G cs b off→Ai w G ds b off
 | [],[],_,_,_,h=>h
 | [],_::_,_,_,h,_=>h.elim
 | _::_,[],_,_,h,_=>h.elim
 | c::cs,d::ds,b,off,h,hr=>by
   simp only [Ai]at hr ⊢
   obtain⟨⟨v,h1,h2⟩,h3⟩:=hr
   exact⟨⟨v,h1,h.1 _ _ _ h2⟩,Ai.imp h.2 h3⟩
theorem Ag.imp {w:World} {G:Au}: ∀ {cs ds:List C} {vs:List Value},C1 cs ds→Ag w G cs vs→Ag w G ds vs
 | [],[],_,_,h=>h
 | [],_::_,_,h,_=>h.elim
 | _::_,[],_,h,_=>h.elim
 | c::cs,d::ds,[],_,hr=>by simp only [Ag]at hr
 | c::cs,d::ds,v::vs,h,hr=>by
   simp only [Ag]at hr ⊢
   exact⟨h.1 _ _ _ hr.1,Ag.imp h.2 hr.2⟩
structure o8 (st st':St):Prop where
 len:st'.tm.length=st.tm.length
 tm: ∀ i,PF (st.tm.getD i .undef) (st'.tm.getD i .undef)
 so: ∀ e'∈st'.so,e'∈st.so∨ ∃ cs cs',(⟨e'.id,none,cs,false⟩:Ak)∈st.so∧e'=⟨e'.id,none,cs',false⟩∧C1 cs cs'∧ST cs=false
 nd:(st'.so.map (·.id)).Nodup
 gh:st'.gh=st.gh
 pre:st'.pre=st.pre
theorem R.wkn {F:Fr} {st st':St} {a:Act} {w:World} {G:Au} (h:R F st a w G) (k:o8 st st'):R F st' a w G:={
 dfr:=h.dfr
 size:=by rw [k.len];exact h.size
 slots:=fun i=>k.tm i _ _ _ (h.slots i)
 ghosts:=by rw [k.gh];exact h.ghosts
 store:=fun e he=>by
  rcases k.so e he with q | ⟨cs,cs',q1,q2,q3,q4⟩
  ·exact h.store e q
  ·have:=h.store _ q1
   rw [q2]
   simp only [AJ]at this ⊢
   obtain⟨b,h1,h2⟩:=this
   obtain⟨Ty,cur,h3,h4,h5⟩:=h2.cells q4
   exact⟨b,h1, .inr ⟨Ty,cur,h3,by rw [h4,q3.length],h5.imp q3⟩⟩
 deep:=fun e he=>by
  rcases k.so e he with q | ⟨cs,cs',q1,q2,q3,q4⟩
  ·exact h.deep e q
  ·have:=h.deep _ q1
   rw [q2]
   exact⟨this.1,fun hd=>by have:=(this.2 hd).1;cases this⟩
 pures:=fun e he hp=>by
  rcases k.so e he with q | ⟨cs,cs',q1,q2,q3,q4⟩
  ·exact h.pures e q hp
  grind
 nodup:=k.nd
 inj:=h.inj,lt:=h.lt,new:=h.new,wr:=h.wr,avlt:=h.avlt,inv:=h.inv,avold:=h.avold,os:=h.os,tape:=h.tape,output:=h.output,hsize:=h.hsize,ext:=h.ext}
theorem Wk.wkn {st st':St} (k:o8 st st'):Wk st st':=fun _ _ _ G hR=>⟨G,hR.wkn k⟩
inductive Sg where
 | v (t:VT)
 | c (x:C)
inductive VSp where
 | c (s:Sg)
 | agg (l:List Sg)
inductive ESp where
 | box (l:List Sg)
 | row (E:Nat)
 | deep (E:Nat)
structure EY where
 ks:List Nat
 vs:List (Nat×VSp)
 ke:List Ae
 es:List (Ae×ESp)
def Sg.ts:List Sg→List VT
 | []=>[]
 | .v t::r=>t::Sg.ts r
 | .c _::r=>Sg.ts r
def VSp.ts:VSp→List VT
 | .c s=>Sg.ts [s]
 | .agg l=>Sg.ts l
def ESp.ts:ESp→List VT
 | .box l=>Sg.ts l
 | .row E=>[.k (.lst E)]
 | .deep E=>[.k (.int .i64), .k (.lst E)]
def nf:List (Nat×VSp)→List VT
 | []=>[]
 | (_,p)::r=>p.ts++nf r
def ng:List (Ae×ESp)→List VT
 | []=>[]
 | (_,p)::r=>p.ts++ng r
def EY.ts (sh:EY):List VT:=nf sh.vs++ng sh.es
def o9 (x c:C):Bool:=match x,c with
 | .any,_=>true
 | .osl i, .osl j=>AG i j
 | .ptr i o, .ptr j o'=>AG i j&&Nat.beq o o'
 | .nilp, .nilp =>true
 | .niface, .niface =>true
 | .held, .held =>true
 | .nils, .nils =>true
 | .fn f, .fn g=>Nat.beq f g
 | _,_=>false
theorem gW {x c:C} (h:o9 x c=true):QN c x:=by
 unfold o9 at h
 split at h
 ·intro w G u hr
  simp only [Ac]
  exact hr.one
 all_goals simp_all [Az,QN.refl]
def GA:List Sg→List (DC T)→Option (List (DV T)×List (DC T))
 | [],cs=>some ([],cs)
 | .c x::r,c::cs=>match o9 x c.toC with
   | true=>GA r cs
   | false=>none
 | .v (.k _)::r,c::cs=>match GA r cs with
   | some (vs,ds)=>some (.c c::vs,ds)
   | none=>none
 | .v (.s E)::r,cs=>match Nat.ble (T.sz E) cs.length,GA r (cs.drop (T.sz E))with
   | true,some (vs,ds)=>some (.agg (cs.take (T.sz E))::vs,ds)
   | _,_=>none
 | _,_=>none
def DN:List Sg→List (DV T)→Option (List (DC T)×List (DV T))
 | [],vs=>some ([],vs)
 | .c x::r,vs=>match DN r vs with
   | some (cs,us)=>some (.c x::cs,us)
   | none=>none
 | .v _::r, .c y::vs=>match DN r vs with
   | some (cs,us)=>some (y::cs,us)
   | none=>none
 | .v _::r, .agg ds::vs=>match DN r vs with
   | some (cs,us)=>some (ds++cs,us)
   | none=>none
 | _::_,_=>none
def gX (v v':DV T):Prop:=(∃ c c',v= .c c∧v'= .c c'∧Ed c.toC=c'.toC∧c'.ok)∨(∃ cs cs',v= .agg cs∧v'= .agg cs'∧(Al cs).map Ed=Al cs'∧Bs cs')
inductive All2 {α β:Type} (P:α→β→Prop):List α→List β→Prop
 | nil:All2 P [] []
 | cons {a b l m}:P a b→All2 P l m→All2 P (a::l) (b::m)
theorem All2.append_inv {α β:Type} {P:α→β→Prop}: ∀ {a b:List α} {m:List β},All2 P (a++b) m→ ∃ x y,m=x++y∧All2 P a x∧All2 P b y
 | [],b,m,h=>⟨[],m,rfl, .nil,h⟩
 | c::a,b,m,h=>by
   cases h with
   | cons h1 h2=>
     obtain⟨x,y,e,p,q⟩:=All2.append_inv h2
     subst e
     exact⟨_::x,y,rfl, .cons h1 p,q⟩
theorem Ex: ∀ {l:List Sg} {cs ds:List (DC T)} {vs vs':List (DV T)} {cs':List (DC T)} {us us':List (DV T)},GA l cs=some (vs,ds)→All2 gX vs vs'→DN l (vs'++us)=some (cs',us')→
 us'=us∧C1 (Al cs) (Al cs'++Al ds)∧Bs cs'
 | [],cs,ds,vs,vs',cs',us,us',h,hw,hi=>by
   simp only [GA,Option.some.injEq,Prod.mk.injEq]at h
   obtain⟨rfl,rfl⟩:=h
   cases hw
   simp only [DN,List.nil_append,Option.some.injEq,Prod.mk.injEq]at hi
   obtain⟨rfl,rfl⟩:=hi
   exact⟨rfl,by grind [Al,C1.refl],by simp [Bs]⟩
 | .c x::r,c::cs,ds,vs,vs',cs',us,us',h,hw,hi=>by
   simp only [GA]at h
   split at h
   ·rename_i ho
    simp only [DN]at hi
    split at hi
    ·rename_i cs1 us1 h1
     simp only [Option.some.injEq,Prod.mk.injEq]at hi
     obtain⟨rfl,rfl⟩:=hi
     obtain⟨a,b,d⟩:=Ex h hw h1
     refine⟨a,?_,by simp_all [Bs,DC.ok]⟩
     simp only [Al,List.cons_append,DC.toC]
     exact⟨gW ho,b⟩
    ·cases hi
   ·cases h
 | .v (.k kd)::r,c::cs,ds,vs,vs',cs',us,us',h,hw,hi=>by
   simp only [GA]at h
   split at h
   ·rename_i vs1 ds1 h1
    simp only [Option.some.injEq,Prod.mk.injEq]at h
    obtain⟨rfl,rfl⟩:=h
    cases hw with
    | cons p q=>
      rename_i b m
      rcases p with ⟨c0,c',e1,e2,e3,e4⟩ | ⟨_,_,e1,_⟩
      ·injection e1 with e1
       subst e1 e2
       simp only [List.cons_append,DN]at hi
       split at hi
       ·rename_i cs1 us1 h2
        simp only [Option.some.injEq,Prod.mk.injEq]at hi
        obtain⟨rfl,rfl⟩:=hi
        obtain⟨a,b,d⟩:=Ex h1 q h2
        refine⟨a,?_,by grind [Bs]⟩
        simp only [Al,List.cons_append]
        exact⟨QN.weak e3,b⟩
       ·cases hi
      ·cases e1
   ·cases h
 | .v (.s E)::r,cs,ds,vs,vs',cs',us,us',h,hw,hi=>by
   simp only [GA]at h
   split at h
   ·rename_i vs1 ds1 hb h1
    simp only [Option.some.injEq,Prod.mk.injEq]at h
    obtain⟨rfl,rfl⟩:=h
    cases hw with
    | cons p q=>
      rename_i b m
      rcases p with ⟨_,_,e1,_⟩ | ⟨c0,c',e1,e2,e3,e4⟩
      ·cases e1
      ·injection e1 with e1
       subst e1 e2
       simp only [List.cons_append,DN]at hi
       split at hi
       ·rename_i cs1 us1 h2
        simp only [Option.some.injEq,Prod.mk.injEq]at hi
        obtain⟨rfl,rfl⟩:=hi
        obtain⟨a,b,d⟩:=Ex h1 q h2
        refine⟨a,?_,B9 e4 d⟩
        have e:Al cs=Al (cs.take (T.sz E))++Al (cs.drop (T.sz E)):=by rw [←BG,List.take_append_drop]
        rw [e,BG,List.append_assoc]
        exact(C1.weak e3).append b
       ·cases hi
   ·cases h
 | .c _::_,[],_,_,_,_,_,_,h,_,_=>by simp [GA]at h
 | .v (.k _)::_,[],_,_,_,_,_,_,h,_,_=>by simp [GA]at h
 | .v (.f _)::_,_,_,_,_,_,_,_,h,_,_=>by simp [GA]at h
def kO:VSp→DV T→Option (List (DV T))
 | .c s, .c x=>match GA [s] [x]with
   | some (vs,[])=>some vs
   | _=>none
 | .agg l, .agg cs=>match GA l cs with
   | some (vs,[])=>some vs
   | _=>none
 | _,_=>none
def aR:VSp→List (DV T)→Option (DV T×List (DV T))
 | .c s,vs=>match DN [s] vs with
   | some ([c],us)=>some (.c c,us)
   | _=>none
 | .agg l,vs=>match DN l vs with
   | some (cs,us)=>some (.agg cs,us)
   | none=>none
theorem aS {p:VSp} {v:DV T} {vs vs' us us':List (DV T)} {v':DV T} (h:kO p v=some vs) (hw:All2 gX vs vs') (hi:aR p (vs'++us)=some (v',us')):us'=us∧PF v.toV v'.toV:=by
 unfold kO at h
 split at h
 ·rename_i s x
  split at h
  ·rename_i vs1 h1
   injection h with h;subst h
   simp only [aR]at hi
   split at hi
   ·rename_i c us1 h2
    simp only [Option.some.injEq,Prod.mk.injEq]at hi
    obtain⟨rfl,rfl⟩:=hi
    obtain⟨a,b,d⟩:=Ex h1 hw h2
    refine⟨a,?_⟩
    simp only [Al,List.append_nil,C1,and_true]at b
    intro w G u hr
    simp only [DV.toV,Ab]at hr ⊢
    exact b _ _ _ hr
   ·cases hi
  ·cases h
 ·rename_i l cs
  split at h
  ·rename_i vs1 h1
   injection h with h;subst h
   simp only [aR]at hi
   split at hi
   ·rename_i c us1 h2
    simp only [Option.some.injEq,Prod.mk.injEq]at hi
    obtain⟨rfl,rfl⟩:=hi
    obtain⟨a,b,d⟩:=Ex h1 hw h2
    refine⟨a,?_⟩
    simp only [Al,List.append_nil]at b
    intro w G u hr
    simp only [DV.toV,Ab]at hr ⊢
    obtain⟨arr,e,hr⟩:=hr
    exact⟨arr,e,hr.imp b⟩
   ·cases hi
  ·cases h
 ·cases h
def aT (v:DV T):Prop:= ∀ (H:Am T) (n:Nat),v.ok H n
theorem Hg: ∀ {l:List Sg} {vs us:List (DV T)} {cs:List (DC T)},(∀ v∈vs,aT v)→DN l vs=some (cs,us)→Bs cs∧ ∀ v∈us,aT v
 | [],vs,us,cs,hv,h=>by
   simp only [DN,Option.some.injEq,Prod.mk.injEq]at h
   obtain⟨rfl,rfl⟩:=h
   grind [Bs]
 | .c x::r,vs,us,cs,hv,h=>by
   simp only [DN]at h
   split at h
   ·rename_i cs1 us1 h1
    simp only [Option.some.injEq,Prod.mk.injEq]at h
    obtain⟨rfl,rfl⟩:=h
    obtain⟨a,b⟩:=Hg hv h1
    simp_all [Bs,DC.ok]
   ·cases h
 | .v t::r,vs,us,cs,hv,h=>by
   match vs,hv,h with
   | .c y::vs,hv,h=>
     simp only [DN]at h
     split at h
     ·rename_i cs1 us1 h1
      simp only [Option.some.injEq,Prod.mk.injEq]at h
      obtain⟨rfl,rfl⟩:=h
      obtain⟨a,b⟩:=Hg (fun v hm=>hv v (by simp [hm])) h1
      have:=hv (.c y) (by simp) ⟨fun _=> .u,fun _=>⟨[],0, .box []⟩⟩ 0
      simp only [DV.ok]at this
      exact⟨by simp only [Bs];exact⟨this,a⟩,b⟩
     ·cases h
   | .agg ds::vs,hv,h=>
     simp only [DN]at h
     split at h
     ·rename_i cs1 us1 h1
      simp only [Option.some.injEq,Prod.mk.injEq]at h
      obtain⟨rfl,rfl⟩:=h
      obtain⟨a,b⟩:=Hg (fun v hm=>hv v (by simp [hm])) h1
      have:=hv (.agg ds) (by simp) ⟨fun _=> .u,fun _=>⟨[],0, .box []⟩⟩ 0
      simp only [DV.ok]at this
      exact⟨B9 this a,b⟩
     ·cases h
   | [],_,h=>simp [DN]at h
   | .tup _::_,_,h=>simp [DN]at h
   | .g _ _::_,_,h=>simp [DN]at h
   | .u ::_,_,h=>simp [DN]at h
theorem gY {p:VSp} {vs us:List (DV T)} {v:DV T} (hv: ∀ v∈vs,aT v) (h:aR p vs=some (v,us)):aT v∧ ∀ v∈us,aT v:=by
 unfold aR at h
 split at h
 ·split at h
  ·rename_i c us1 h1
   simp only [Option.some.injEq,Prod.mk.injEq]at h
   obtain⟨rfl,rfl⟩:=h
   obtain⟨a,b⟩:=Hg hv h1
   simp only [Bs,and_true]at a
   exact⟨fun H n=>by simp only [DV.ok];exact a,b⟩
  ·cases h
 ·split at h
  ·rename_i c us1 h1
   simp only [Option.some.injEq,Prod.mk.injEq]at h
   obtain⟨rfl,rfl⟩:=h
   obtain⟨a,b⟩:=Hg hv h1
   exact⟨fun H n=>by simp only [DV.ok];exact a,b⟩
  ·cases h
end Go.PL
namespace Go.PL
open Go Go.RowKit
variable {T:AN}
def TY (kd:Kd) (v:DV T):Option (KZ T.den kd):=match oo v with
 | some x=>Fi true kd x
 | none=>none
def TZ (E:Nat) (v:DV T):Option (T.den E):=match ot v with
 | some cs=>bZ true E cs
 | none=>none
def PG:(t:VT)→DV T→Option (DL T t)
 | .k kd,v=>TY kd v
 | .s E,v=>TZ E v
 | .f _,_=>none
theorem T0 {kd:Kd} {v:DV T} {x:KZ T.den kd} (h:TY kd v=some x):gX v (.c (.k kd x)):=by
 unfold TY at h
 split at h
 ·rename_i y hy
  exact .inl ⟨y,_,Wa hy,rfl,(BS h).1,by simp only [DC.ok]⟩
 ·cases h
theorem T1 {E:Nat} {v:DV T} {x:T.den E} (h:TZ E v=some x):gX v (.agg (TL E x)):=by
 unfold TZ at h
 split at h
 ·rename_i y hy
  exact .inr ⟨y,_,Wb hy,rfl,by grind [DY,EQ],HE E x⟩
 ·cases h
theorem Nl {t:VT} {v:DV T} {x:DL T t} (h:PG t v=some x):gX v (Jf t x):=by
 cases t with
 | k kd=>exact T0 h
 | s E=>exact T1 h
 | f g=>cases h
def Zc {α β:Type}:Option α→Option β→Option (α×β)
 | some x,some y=>some (x,y)
 | _,_=>none
theorem XW {α β:Type} {a:Option α} {b:Option β} {x:α×β} (h:Zc a b=some x):a=some x.1∧b=some x.2:=by
 cases a<;>cases b<;>simp [Zc]at h
 grind
def T3:(ts:List VT)→List (DV T)→Option (RT T ts)
 | [],[]=>some ()
 | [t],[v]=>PG t v
 | t::u::ts,v::vs=>Zc (PG t v) (T3 (u::ts) vs)
 | _,_=>none
theorem Nm: ∀ {ts:List VT} {vs:List (DV T)} {x:RT T ts},T3 ts vs=some x→All2 gX vs (BA ts x)
 | [],[],x,_=> .nil
 | [],_::_,x,h=>by cases (show (none:Option (RT T []))=some x from h)
 | [t],[v],x,h=> .cons (Nl (show PG t v=some x from h)) .nil
 | [t],[],x,h=>by cases (show (none:Option (RT T [t]))=some x from h)
 | [t],v::w::vs,x,h=>by cases (show (none:Option (RT T [t]))=some x from h)
 | t::u::ts,[],x,h=>by cases (show (none:Option (RT T (t::u::ts)))=some x from h)
 | t::u::ts,v::vs,x,h=>by
   obtain⟨h1,h2⟩:=XW (show Zc (PG t v) (T3 (u::ts) vs)=some x from h)
   exact .cons (Nl h1) (Nm h2)
theorem C2 (ts:List VT) (x:RT T ts): ∀ v∈BA ts x,aT v:=fun v hv H n=>Ii.1 (Mc (H:=H) (nx:=n) ts x) v hv
def Iy (tm:Tm T):List (Nat×VSp)→Option (List (DV T))
 | []=>some []
 | (s,p)::r=>match kO p (lk tm s),Iy tm r with
   | some a,some b=>some (a++b)
   | _,_=>none
def EZ:List (Nat×VSp)→List (DV T)→Ad T→Option (Ad T×List (DV T))
 | [],vs,st=>some (st,vs)
 | (s,p)::r,vs,st=>match aR p vs with
   | some (v,us)=>EZ r us (st.put (some s) v)
   | none=>none
theorem GB {H:Am T} {st0:Ad T}: ∀ {l:List (Nat×VSp)} {vs us:List (DV T)} {st st':Ad T} {H1:Am T},Nx H st0 H1 st→(∀ v∈vs,aT v)→EZ l vs st=some (st',us)→
 (∃ H',Nx H st0 H' st')∧(∀ v∈us,aT v)∧st'.so=st.so∧st'.gh=st.gh∧st'.pre=st.pre∧st'.m=st.m
 | [],vs,us,st,st',H1,hn,hv,h=>by
   simp only [EZ,Option.some.injEq,Prod.mk.injEq]at h
   grind
 | (s,p)::r,vs,us,st,st',H1,hn,hv,h=>by
   simp only [EZ]at h
   split at h
   ·rename_i v us1 h1
    obtain⟨a,b⟩:=gY hv h1
    obtain⟨H2,h2⟩:=Ad.put_spec hn (some s) (a H1 _)
    obtain⟨c1,c2,c3,c4,c5,c6⟩:=GB h2 b h
    exact⟨c1,c2,c3,c4,c5,c6⟩
   ·cases h
theorem dK (st:Ad T) (s i:Nat) (v:DV T):lk (st.put (some s) v).tm i=if s=i then v else lk st.tm i:=by
 simp only [Ad.put,lk]
 by_cases h:s=i
 ·simp_all
 ·rw [if_neg h]
  grind [Nat.eq_of_beq_eq_true]
theorem So {tm:Tm T}: ∀ {l:List (Nat×VSp)} {vs vs' us us':List (DV T)} {st st':Ad T},Iy tm l=some vs→All2 gX vs vs'→EZ l (vs'++us) st=some (st',us')→(∀ i,PF (lk tm i).toV (lk st.tm i).toV)→
 us'=us∧ ∀ i,PF (lk tm i).toV (lk st'.tm i).toV
 | [],vs,vs',us,us',st,st',h,hw,hi,hs=>by
   simp only [Iy,Option.some.injEq]at h
   subst h
   cases hw
   simp only [EZ,List.nil_append,Option.some.injEq,Prod.mk.injEq]at hi
   grind
 | (s,p)::r,vs,vs',us,us',st,st',h,hw,hi,hs=>by
   simp only [Iy]at h
   split at h
   ·rename_i a b h1 h2
    injection h with h;subst h
    obtain⟨x,y,rfl,k1,k2⟩:=All2.append_inv hw
    simp only [EZ]at hi
    split at hi
    ·rename_i v us1 h3
     rw [List.append_assoc]at h3
     obtain⟨e,hv⟩:=aS h1 k1 h3
     subst e
     refine So h2 k2 hi fun i=>?_
     rw [dK]
     split
     ·rename_i e;subst e;exact hv
     ·exact hs i
    ·cases hi
   ·cases h
def kP (l:List (DE T)) (id:Ae) (p:ESp):Option (List (DV T)):=match ES l id,p with
 | some e, .box sg=>match e.x with
   | .box cs=>match YY cs,GA sg cs with
     | false,some (vs,[])=>some vs
     | _,_=>none
   | _=>none
 | some e, .row E0=>match e.x with
   | .row E l=>match Nat.beq E E0 with
     | true=>some [.c (.k (.lst E) l)]
     | false=>none
   | _=>none
 | some e, .deep E0=>match e.x with
   | .deep E n l none=>match Nat.beq E E0 with
     | true=>some [.c (.k (.int .i64) n), .c (.k (.lst E) l)]
     | false=>none
   | _=>none
 | none,_=>none
def XX:ESp→List (DV T)→Option (DX T×List (DV T))
 | .box sg,vs=>match DN sg vs with
   | some (cs,us)=>some (.box cs,us)
   | none=>none
 | .row E0, .c (.k (.lst E) l)::vs=>match Nat.beq E E0 with
   | true=>some (.row E l,vs)
   | false=>none
 | .deep E0, .c (.k (.int .i64) n):: .c (.k (.lst E) l)::vs=>match Nat.beq E E0 with
   | true=>some (.deep E n l none,vs)
   | false=>none
 | _,_=>none
def pZ (T:AN):Kd→C→C
 | .lst F, .sl n cs=> .isl F (T.sz F) n cs
 | _,c=>c
def kQ (T:AN):List Kd→List C→List C
 | k::ks,c::cs=>pZ T k c::kQ T ks cs
 | _,_=>[]
theorem PH: ∀ (ks:List Kd) (y:DK T.den ks),Ba T ks y=kQ T ks (Bf T.enc ks y)
 | [],_=>rfl
 | k::ks,y=>by
   simp only [Ba,Bf,kQ]
   rw [PH ks y.2]
   cases k<;>rfl
theorem gZ {E:Nat} {x y:T.den E} (h:T.enc E x=T.enc E y):T.denc E x=T.denc E y:=by
 unfold AN.denc
 rw [PH,PH,T.encok,T.encok,h]
theorem Sq {E:Nat} {n:Int}: ∀ {l m:List (T.den E)} {k:Int},l.length=m.length→l.flatMap (T.enc E)=m.flatMap (T.enc E)→As T E n k l=As T E n k m
 | [],[],_,_,_=>rfl
 | [],_::_,_,h,_=>by simp at h
 | _::_,[],_,h,_=>by simp at h
 | x::l,y::m,k,h,q=>by
   simp only [List.flatMap_cons]at q
   obtain⟨q1,q2⟩:=List.append_inj q (by rw [AA,AA])
   simp only [As]
   rw [q1,gZ q1,Sq (by simpa using h) q2]
def Lc (l:List (DE T)):List (Ae×ESp)→Option (List (DV T))
 | []=>some []
 | (id,p)::r=>match kP l id p,Lc l r with
   | some a,some b=>some (a++b)
   | _,_=>none
def Ad.addE (st:Ad T) (id:Ae) (x:DX T):Ad T:={st with so:=⟨id,st.nx,x⟩::st.so,nx:=st.nx+1}
def We (id:Ae):List (DE T)→Bool
 | []=>false
 | e::r=>match AG e.id id with
   | true=>true
   | false=>We id r
theorem PI {id:Ae}: ∀ {l:List (DE T)},We id l=false→ ∀ e∈l,e.id ≠ id
 | [],_,_,h=>by cases h
 | a::r,h,e,he=>by
   unfold We at h
   split at h
   ·cases h
   ·rename_i hb
    rcases List.mem_cons.1 he with rfl | he
    ·intro q;rw [Az.2 q]at hb;cases hb
    ·exact PI h e he
def Fo:List (Ae×ESp)→List (DV T)→Ad T→Option (Ad T×List (DV T))
 | [],vs,st=>some (st,vs)
 | (id,p)::r,vs,st=>match XX p vs,We id st.so with
   | some (x,us),false=>Fo r us (st.addE id x)
   | _,_=>none
theorem hC {p:ESp} {vs us:List (DV T)} {x:DX T} (hv: ∀ v∈vs,aT v) (h:XX p vs=some (x,us)):x.ok∧ ∀ v∈us,aT v:=by
 unfold XX at h
 split at h
 ·split at h
  ·rename_i cs us1 h1
   simp only [Option.some.injEq,Prod.mk.injEq]at h
   obtain⟨rfl,rfl⟩:=h
   exact Hg hv h1
  ·cases h
 ·split at h
  ·simp only [Option.some.injEq,Prod.mk.injEq]at h
   obtain⟨rfl,rfl⟩:=h
   exact⟨trivial,(by grind)⟩
  ·cases h
 ·split at h
  ·simp only [Option.some.injEq,Prod.mk.injEq]at h
   obtain⟨rfl,rfl⟩:=h
   exact⟨trivial,(by grind)⟩
  ·cases h
 ·cases h
theorem hH {H H1:Am T} {st0 st:Ad T} (hn:Nx H st0 H1 st) {id:Ae} {x:DX T} (hx:x.ok) (hid:We id st.so=false): ∃ H',Nx H st0 H' (st.addE id x):=by
 have he:=B3.setE H1 st.nx ⟨id,st.nx,x⟩
 refine⟨H1.setE st.nx ⟨id,st.nx,x⟩,hn.trans ⟨he,Nat.le_succ _,?_,?_,?_,?_⟩⟩
 ·exact Bg he (Nat.le_succ _) hn.ok.tm
 ·exact fun f hf=>Bg he (Nat.le_succ _) (hn.ok.gh f hf)
 ·intro e hm
  rcases List.mem_cons.1 hm with rfl | hm
  ·exact⟨Nat.lt_succ_self _,by simp [Am.setE],hx⟩
  ·exact Dh he (Nat.le_succ _) hn.ok.so e hm
 ·simp only [Ad.addE,List.map_cons]
  refine List.nodup_cons.2 ⟨fun hm=>?_,hn.ok.nd⟩
  grind [PI]
theorem HJ {H:Am T} {st0:Ad T}: ∀ {l:List (Ae×ESp)} {vs us:List (DV T)} {st st':Ad T} {H1:Am T},Nx H st0 H1 st→(∀ v∈vs,aT v)→Fo l vs st=some (st',us)→
 (∃ H',Nx H st0 H' st')∧st'.tm=st.tm∧st'.gh=st.gh∧st'.pre=st.pre∧st'.m=st.m
 | [],vs,us,st,st',H1,hn,hv,h=>by
   simp only [Fo,Option.some.injEq,Prod.mk.injEq]at h
   grind
 | (id,p)::r,vs,us,st,st',H1,hn,hv,h=>by
   simp only [Fo]at h
   split at h
   ·rename_i x us1 h1 h2
    obtain⟨a,b⟩:=hC hv h1
    obtain⟨H2,h3⟩:=hH hn a h2
    obtain⟨c1,c2,c3,c4,c5⟩:=HJ h3 b h
    exact⟨c1,c2,c3,c4,c5⟩
   ·cases h
def hJ (l:List (DE T)) (e':DE T):Prop:=e'.toE∈l.map DE.toE∨ ∃ cs cs',(⟨e'.id,none,cs,false⟩:Ak)∈l.map DE.toE∧e'.toE=⟨e'.id,none,cs',false⟩∧C1 cs cs'∧ST cs=false
theorem aU {l:List (DE T)} {id:Ae} {p:ESp} {vs vs' us us':List (DV T)} {x:DX T} (h:kP l id p=some vs) (hw:All2 gX vs vs') (hi:XX p (vs'++us)=some (x,us')) (t:Nat):us'=us∧hJ l ⟨id,t,x⟩:=by
 unfold kP at h
 split at h
 ·rename_i e sg he
  obtain⟨m1,m2,_⟩:=Cf he
  split at h
  ·rename_i cs hx
   split at h
   ·rename_i vs1 hm h1
    injection h with h;subst h
    simp only [XX]at hi
    split at hi
    ·rename_i cs' us1 h2
     simp only [Option.some.injEq,Prod.mk.injEq]at hi
     obtain⟨rfl,rfl⟩:=hi
     obtain⟨a,b,d⟩:=Ex h1 hw h2
     simp only [Al,List.append_nil]at b
     refine⟨a, .inr ⟨Al cs,Al cs',(by grind [DE.toE_box]),rfl,b,(by grind [R1,cU])⟩⟩
    ·cases hi
   ·cases h
  ·cases h
 ·rename_i e E0 he
  obtain⟨m1,m2,_⟩:=Cf he
  split at h
  ·rename_i E l' hx
   split at h
   ·rename_i hE
    have hE:=Nat.eq_of_beq_eq_true hE
    subst hE
    injection h with h;subst h
    cases hw with
    | cons k1 k2=>
      cases k2
      rcases k1 with ⟨c,c',e1,e2,e3,e4⟩ | ⟨_,_,e1,_⟩
      ·injection e1 with e1
       subst e1 e2
       simp only [List.cons_append,List.nil_append]at hi
       unfold XX at hi
       split at hi
       ·grind
       ·rename_i E0 E' l'' vs0 q1 q2
        injection q1 with q1
        subst q1
        injection q2 with q2 q3
        injection q2 with q2
        subst q2 q3
        split at hi
        ·rename_i hE
         have hE:=Nat.eq_of_beq_eq_true hE
         subst hE
         simp only [Option.some.injEq,Prod.mk.injEq]at hi
         obtain⟨rfl,rfl⟩:=hi
         refine⟨rfl, .inl (List.mem_map.2 ⟨e,m1,?_⟩)⟩
         grind [DC.toC,AQ,Ed,DE.toE]
        ·cases hi
       all_goals grind
      ·cases e1
   ·cases h
  ·cases h
 ·rename_i e E0 he
  obtain⟨m1,m2,_⟩:=Cf he
  split at h
  ·rename_i E n l' hx
   split at h
   ·rename_i hE
    have hE:=Nat.eq_of_beq_eq_true hE
    subst hE
    injection h with h;subst h
    cases hw with
    | cons k1 k2=>
      cases k2 with
      | cons k3 k4=>
        cases k4
        rcases k1 with ⟨c,c',e1,e2,e3,e4⟩ | ⟨_,_,e1,_⟩
        ·rcases k3 with ⟨d,d',f1,f2,f3,f4⟩ | ⟨_,_,f1,_⟩
         ·injection e1 with e1
          injection f1 with f1
          subst e1 e2 f1 f2
          simp only [List.cons_append,List.nil_append]at hi
          unfold XX at hi
          split at hi
          ·grind
          ·grind
          ·rename_i E1 n' E2 l'' vs0 q1 q2
           injection q1 with q1
           subst q1
           injection q2 with q2 q3
           injection q2 with q2
           injection q3 with q3 q4
           injection q3 with q3
           subst q2 q3 q4
           split at hi
           ·rename_i hE
            have hE:=Nat.eq_of_beq_eq_true hE
            subst hE
            simp only [Option.some.injEq,Prod.mk.injEq]at hi
            obtain⟨rfl,rfl⟩:=hi
            refine⟨rfl, .inl (List.mem_map.2 ⟨e,m1,?_⟩)⟩
            grind [DC.toC,AQ,Ed,DE.toE,AP,Sq]
           ·cases hi
          ·cases hi
         ·cases f1
        ·cases e1
   ·cases h
  ·cases h
 ·cases h
end Go.PL
namespace Go.PL
open Go Go.RowKit
variable {T:AN}
theorem Wf {L:List (DE T)}: ∀ {l:List (Ae×ESp)} {vs vs' us us':List (DV T)} {st st':Ad T},Lc L l=some vs→All2 gX vs vs'→Fo l (vs'++us) st=some (st',us')→(∀ e∈st.so,hJ L e)→
 us'=us∧ ∀ e∈st'.so,hJ L e
 | [],vs,vs',us,us',st,st',h,hw,hi,hs=>by
   simp only [Lc,Option.some.injEq]at h
   subst h
   cases hw
   simp only [Fo,List.nil_append,Option.some.injEq,Prod.mk.injEq]at hi
   grind
 | (id,p)::r,vs,vs',us,us',st,st',h,hw,hi,hs=>by
   simp only [Lc]at h
   split at h
   ·rename_i a b h1 h2
    injection h with h;subst h
    obtain⟨x,y,rfl,k1,k2⟩:=All2.append_inv hw
    simp only [Fo]at hi
    split at hi
    ·rename_i v us1 h3 h4
     rw [List.append_assoc]at h3
     obtain⟨e,hv⟩:=aU h1 k1 h3 st.nx
     subst e
     refine Wf h2 k2 hi fun e he=>?_
     rcases List.mem_cons.1 he with rfl | he
     all_goals grind
    ·cases hi
   ·cases h
def Ey (ks:List Nat):Tm T→Tm T
 | []=>[]
 | (s,t,v)::r=>match Ec ks s with
   | true=>(s,t,v)::Ey ks r
   | false=>Ey ks r
def JO:List Ae→Ae→Bool
 | [],_=>false
 | a::l,b=>match AG a b with
   | true=>true
   | false=>JO l b
def JP (ke:List Ae):List (DE T)→List (DE T)
 | []=>[]
 | e::r=>match JO ke e.id with
   | true=>e::JP ke r
   | false=>JP ke r
theorem HL {ks:List Nat}: ∀ {tm:Tm T} {x:Nat×Nat×DV T},x∈Ey ks tm→x∈tm
 | [],_,h=>h
 | (s,t,v)::r,x,h=>by
   unfold Ey at h
   split at h
   ·rcases List.mem_cons.1 h with rfl | h
    ·simp
    ·simp [HL h]
   ·simp [HL h]
theorem IW {ks:List Nat} (i:Nat): ∀ tm:Tm T,lk (Ey ks tm) i=(match Ec ks i with | true=>lk tm i | false=> .u)
 | []=>by cases Ec ks i<;>rfl
 | (s,t,v)::r=>by
   have ih:=IW (ks:=ks) i r
   unfold Ey
   cases hs:Ec ks s with
   | true=>
     simp only [lk]
     cases hb:Nat.beq s i with
     | true=>
       have:=Nat.eq_of_beq_eq_true hb
       subst this
       rw [hs]
     | false=>exact ih
   | false=>
     simp only
     rw [ih]
     cases hi:Ec ks i with
     | true=>
       simp only [lk]
       cases hb:Nat.beq s i with
       | true=>
         have:=Nat.eq_of_beq_eq_true hb
         subst this
         rw [hs]at hi;cases hi
       | false=>rfl
     | false=>rfl
theorem JQ {b:Ae}: ∀ {l:List Ae},JO l b=true↔b∈l
 | []=>by simp [JO]
 | a::l=>by
   unfold JO
   cases h:AG a b with
   | true=>have:=Az.1 h;subst this;simp
   | false=>
     have:b ≠ a:=fun e=>by rw [Az.2 e.symm]at h;cases h
     simp [JQ (l:=l),this]
theorem Ez (ke:List Ae): ∀ l:List (DE T),(JP ke l).Sublist l∧ ∀ e∈JP ke l,e.id∈ke
 | []=>⟨List.Sublist.slnil,fun _ h=>by cases h⟩
 | e::r=>by
   obtain⟨a,b⟩:=Ez ke r
   unfold JP
   split
   ·rename_i h
    refine⟨a.cons_cons _,fun x hx=>?_⟩
    rcases List.mem_cons.1 hx with rfl | hx
    all_goals grind [JQ]
   grind
def EY.base (sh:EY) (st:Ad T):Ad T:={st with tm:=Ey sh.ks st.tm,so:=JP sh.ke st.so}
theorem EY.base_nx {H:Am T} (sh:EY) {st:Ad T} (h:Av H st):Nx H st H (sh.base st):=
 ⟨B3.refl _ _,Nat.le_refl _,fun s t v hm=>h.tm s t v (HL hm),h.gh,fun e he=>h.so e ((Ez _ _).1.subset he),List.Sublist.nodup ((Ez _ _).1.map _) h.nd⟩
def EY.inst (sh:EY) (st:Ad T) (vs:List (DV T)):Option (Ad T):=match EZ sh.vs vs (sh.base st)with
 | some (s,us)=>match Fo sh.es us s with
   | some (s',_)=>some s'
   | none=>none
 | none=>none
theorem EY.inst_nx {H:Am T} {sh:EY} {st s':Ad T} (h:Av H st) {vs:List (DV T)} (hv: ∀ v∈vs,aT v) (hi:sh.inst st vs=some s'): ∃ H',Nx H st H' s':=by
 unfold EY.inst at hi
 split at hi
 ·rename_i s us h1
  split at hi
  ·rename_i s2 us2 h2
   injection hi with hi;subst hi
   obtain⟨⟨H1,a⟩,b,_⟩:=GB (sh.base_nx h) hv h1
   exact(HJ a b h2).1
  ·cases hi
 ·cases hi
def Zd (ks:List Nat) (tm tm0:Tm T):Bool:=match ks with
 | []=>true
 | s::r=>match Nat.beq (OV tm s) (OV tm0 s)with
   | true=>Zd r tm tm0
   | false=>false
def Wg (ke:List Ae) (l l0:List (DE T)):Bool:=match ke with
 | []=>true
 | i::r=>match ES l0 i with
   | none=>Wg r l l0
   | some b=>match ES l i with
     | some a=>match Nat.beq a.tag b.tag with
       | true=>Wg r l l0
       | false=>false
     | none=>false
def aV:Tm T→Tm T→Bool
 | [],[]=>true
 | (s,t,_)::r,(s',t',_)::r'=>match Nat.beq s s'&&Nat.beq t t' with
   | true=>aV r r'
   | false=>false
 | _,_=>false
def aW:List (Nat×Tm T)→List (Nat×Tm T)→Bool
 | [],[]=>true
 | (m,tm)::r,(m',tm')::r'=>match Nat.beq m m'&&aV tm tm' with
   | true=>aW r r'
   | false=>false
 | _,_=>false
theorem PJ: ∀ {ks:List Nat} {tm tm0:Tm T},Zd ks tm tm0=true→ ∀ s,Ec ks s=true→OV tm s=OV tm0 s
 | [],_,_,_,s,hs=>by simp [Ec]at hs
 | a::r,tm,tm0,h,s,hs=>by
   unfold Zd at h
   split at h
   ·rename_i hb
    rw [BQ]at hs
    rcases List.mem_cons.1 hs with rfl | hs
    ·exact Nat.eq_of_beq_eq_true hb
    ·exact PJ h s (BQ.2 hs)
   ·cases h
theorem JR: ∀ {ke:List Ae} {l l0:List (DE T)},Wg ke l l0=true→ ∀ i∈ke, ∀ b,ES l0 i=some b→ ∃ a,ES l i=some a∧a.tag=b.tag
 | [],_,_,_,i,hi=>by cases hi
 | k::r,l,l0,h,i,hi=>by
   unfold Wg at h
   intro b hb
   rcases List.mem_cons.1 hi with rfl | hi
   ·rw [hb]at h
    simp only at h
    split at h
    ·rename_i a h1
     split at h
     ·rename_i hq
      exact⟨a,h1,Nat.eq_of_beq_eq_true hq⟩
     ·cases h
    ·cases h
   ·split at h
    ·exact JR h i hi b hb
    ·split at h
     ·split at h
      ·exact JR h i hi b hb
      ·cases h
     ·cases h
theorem Sr {H H':Am T} {n n':Nat} (he:B3 n H H'): ∀ {tm tm':Tm T},aV tm' tm=true→JC H n tm→JC H' n' tm'→tm'=tm
 | [],[],_,_,_=>rfl
 | [],_::_,h,_,_=>by simp [aV]at h
 | _::_,[],h,_,_=>by simp [aV]at h
 | (s,t,v)::r,(s',t',v')::r',h,a,b=>by
   unfold aV at h
   split at h
   ·rename_i hb
    simp only [Bool.and_eq_true,Nat.beq_eq]at hb
    obtain⟨rfl,rfl⟩:=hb
    obtain⟨a1,a2,_⟩:=a s' t' v (by simp)
    obtain⟨_,b2,_⟩:=b s' t' v' (by simp)
    have:v'=v:=by rw [←a2, ←b2,(he t' a1).1]
    subst this
    rw [Sr he h (fun s t v hm=>a s t v (by simp [hm])) (fun s t v hm=>b s t v (by simp [hm]))]
   ·cases h
theorem Ss {H H':Am T} {n n':Nat} (he:B3 n H H'): ∀ {l l':List (Nat×Tm T)},aW l' l=true→(∀ f∈l,JC H n f.2)→(∀ f∈l',JC H' n' f.2)→l'=l
 | [],[],_,_,_=>rfl
 | [],_::_,h,_,_=>by simp [aW]at h
 | _::_,[],h,_,_=>by simp [aW]at h
 | (m,tm)::r,(m',tm')::r',h,a,b=>by
   unfold aW at h
   split at h
   ·rename_i hb
    simp only [Bool.and_eq_true,Nat.beq_eq]at hb
    obtain⟨rfl,hb⟩:=hb
    rw [Sr he hb (by simp_all) (b (m',tm') (by simp)),Ss he h (by grind) (fun f hm=>b f (by simp [hm]))]
   ·cases h
def Dx:List Ae→Ad T→Ad T
 | [],st=>st
 | i::r,st=>match st.frz i with
   | some s=>Dx r s
   | none=>Dx r st
theorem DO {H0:Am T} {st0:Ad T}: ∀ {l:List Ae} {st:Ad T} {H:Am T},Nx H0 st0 H st→(∃ H',Nx H0 st0 H' (Dx l st))∧Wk st.toSt (Dx l st).toSt
 | [],st,H,h=>⟨⟨H,h⟩,Wk.less (Bk.refl _)⟩
 | i::r,st,H,h=>by
   unfold Dx
   split
   ·rename_i s hs
    obtain⟨⟨H1,a⟩,b,_⟩:=Ad.frz_spec h.ok hs
    obtain⟨c,d⟩:=DO (l:=r) (h.trans a)
    grind [Wk.trans,Wk.frz]
   ·exact DO (l:=r) h
def jH:List (Ae×ESp)→List Ae
 | []=>[]
 | (i,_)::r=>i::jH r
def dM (tm:Tm T):List (Nat×VSp)→List Ae
 | []=>[]
 | (s,_)::r=>Zb (lk tm s)++dM tm r
def T4 (l:List (DE T)):List (Ae×ESp)→List Ae
 | []=>[]
 | (i,_)::r=>match ES l i with
   | some e=>match e.x with
     | .box cs=>Sl cs++T4 l r
     | _=>T4 l r
   | none=>T4 l r
def dN (l:List Ae):List Ae→List Ae
 | []=>[]
 | i::r=>match JO l i with
   | true=>dN l r
   | false=>i::dN l r
def EY.frz (sh:EY) (st:Ad T):List Ae:=dN (sh.ke++jH sh.es) (dM st.tm sh.vs++T4 st.so sh.es)
def EY.gen1 (sh:EY) (st0 s:Ad T):Option (RT T sh.ts):=
 match Zd sh.ks s.tm st0.tm&&(Wg sh.ke s.so st0.so&&(aW s.gh st0.gh&&(Nat.beq s.m st0.m&&AG s.pre st0.pre)))with
 | true=>match Iy s.tm sh.vs,Lc s.so sh.es with
   | some a,some b=>T3 sh.ts (a++b)
   | _,_=>none
 | false=>none
def EY.gen (sh:EY) (st0 st':Ad T):Option (RT T sh.ts):=sh.gen1 st0 (Dx (sh.frz st') st')
theorem T5 {l:List (DE T)} (hn:(l.map DE.id).Nodup): ∀ {e:DE T},e∈l→ES l e.id=some e:=by
 induction l with
 | nil=>grind
 | cons a r ih=>
   intro e h
   rw [List.map_cons]at hn
   obtain⟨n1,n2⟩:=List.nodup_cons.1 hn
   unfold ES
   split
   ·rename_i hb
    have hb:=Az.1 hb
    grind
   ·rename_i hb
    rcases List.mem_cons.1 h with rfl | h
    ·rw [Az.2 rfl]at hb;cases hb
    grind
theorem EY.gen1_ok {H H':Am T} {sh:EY} {st0 s s1:Ad T} (h0:Av H st0) (hN:Nx H st0 H' s) {x:RT T sh.ts} (hg:sh.gen1 st0 s=some x) (hi:sh.inst st0 (BA sh.ts x)=some s1):o8 s.toSt s1.toSt:=by
 unfold EY.gen1 at hg
 split at hg
 ·rename_i hb
  simp only [Bool.and_eq_true,Nat.beq_eq]at hb
  obtain⟨k1,k2,k3,k4,k5⟩:=hb
  split at hg
  ·rename_i a b ga gb
   have hw:=Nm hg
   obtain⟨va,vb,hv,wa,wb⟩:=All2.append_inv hw
   unfold EY.inst at hi
   split at hi
   ·rename_i s2 us h1
    split at hi
    ·rename_i s3 us2 h2
     injection hi with hi;subst hi
     rw [hv]at h1
     have hpv:=C2 sh.ts x
     rw [hv]at hpv
     obtain⟨⟨H1,n1⟩,n2,n3,n4,n5,n6⟩:=GB (sh.base_nx h0) hpv h1
     have hbase: ∀ i,PF (lk s.tm i).toV (lk (sh.base st0).tm i).toV :=by
      intro i
      show PF (lk s.tm i).toV (lk (Ey sh.ks st0.tm) i).toV
      rw [IW]
      cases hm:Ec sh.ks i with
      | false=>simp only [DV.toV];intro w G u _;simp only [Ab]
      | true=>
        simp only
        have ht:=PJ k1 i hm
        have:lk s.tm i=lk st0.tm i:=by
         rcases K0 st0.tm i with ⟨q1,q2⟩ | ⟨t,q1,q2⟩
         ·grind [K0]
         ·obtain⟨p1,p2⟩:=OW h0.tm q2
          obtain⟨p3,p4⟩:=OW hN.ok.tm (ht.trans q2)
          rw [←p2, ←p4,(hN.ext t p1).1]
        grind [PF.refl]
     obtain⟨e1,hsl⟩:=So (us:=vb) ga wa h1 hbase
     subst e1
     have hpb: ∀ v∈us,aT v:=n2
     obtain⟨⟨H2,m1⟩,m2,m3,m4,m5⟩:=HJ n1 hpb h2
     have hso0: ∀ e∈s2.so,hJ s.so e:=by
      intro e he
      rw [n3]at he
      have he:e∈JP sh.ke st0.so:=he
      have hid:=(Ez sh.ke st0.so).2 e he
      have hmem:=(Ez sh.ke st0.so).1.subset he
      obtain⟨a',q1,q3⟩:=JR k2 e.id hid e (T5 h0.nd hmem)
      obtain⟨t1,t2,_⟩:=h0.so e hmem
      obtain⟨u1,u2,_⟩:=Cf q1
      obtain⟨v1,v2,_⟩:=hN.ok.so a' u1
      have:a'=e:=by rw [←t2, ←v2,q3,(hN.ext e.tag t1).2]
      subst this
      exact .inl (List.mem_map.2 ⟨a',u1,rfl⟩)
     have h2':Fo sh.es (us++[]) s2=some (s3,us2):=by grind
     obtain⟨_,hen⟩:=Wf gb wb h2' hso0
     have hgh:=Ss hN.ext k3 h0.gh hN.ok.gh
     exact {
      len:=by
       simp only [Ad.toSt,At,List.length_map,List.length_range]
       rw [m5,n6,k4];rfl
      tm:=fun i=>by
       show PF ((At s.m s.tm).getD i .undef) ((At s3.m s3.tm).getD i .undef)
       rw [G5,G5,m5,n6,m2]
       have:(sh.base st0).m =s.m:=k4.symm
       grind [PF.refl]
      so:=fun e' he'=>by
       obtain⟨d,hd,rfl⟩:=List.mem_map.1 he'
       rcases hen d hd with q | ⟨cs,cs',q1,q2,q3,q4⟩
       ·exact .inl q
       ·exact .inr ⟨cs,cs',by rw [DE.toE_id];exact q1,by grind,q3,q4⟩
      nd:=by
       have:=m1.ok.nd
       show ((s3.so.map DE.toE).map Ak.id).Nodup
       rw [List.map_map]
       have e:(Ak.id ∘ DE.toE:DE T→Ae)=DE.id:=by grind [DE.toE_id]
       grind
      gh:=by
       simp only [Ad.toSt]
       rw [m3,n4,hgh];rfl
      pre:=by
       simp only [Ad.toSt]
       rw [m4,n5,Az.1 k5];rfl}
    ·cases hi
   ·cases hi
  ·cases hg
 ·cases hg
theorem EY.gen_ok {H H':Am T} {sh:EY} {st0 st' s1:Ad T} (h0:Av H st0) (hN:Nx H st0 H' st') {x:RT T sh.ts} (hg:sh.gen st0 st'=some x) (hi:sh.inst st0 (BA sh.ts x)=some s1):Wk st'.toSt s1.toSt:=by
 obtain⟨⟨H1,a⟩,b⟩:=DO (l:=sh.frz st') hN
 exact b.trans (Wk.wkn (EY.gen1_ok h0 a hg hi))
end Go.PL
namespace Go.PL
open Go Go.RowKit
variable {T:AN}
def D2:Nat→List (DV T)→Ad T→Ad T
 | _,[],st=>st
 | i,v::vs,st=>D2 (i+1) vs (st.put (some i) v)
theorem JS {H:Am T} {st0:Ad T}: ∀ {vs:List (DV T)} {i:Nat} {st:Ad T} {H1:Am T},Nx H st0 H1 st→BR H st0.nx vs→ ∃ H',Nx H st0 H' (D2 i vs st)
 | [],_,st,H1,h,_=>⟨H1,h⟩
 | v::vs,i,st,H1,h,hv=>by
   simp only [BR]at hv
   obtain⟨H2,h2⟩:=Ad.put_spec h (some i) (DV.ok_ext h.ext h.le hv.1)
   show ∃ H',Nx H st0 H' (D2 (i+1) vs (st.put (some i) v))
   exact JS h2 hv.2
theorem HM: ∀ (vs:List (DV T)) (i:Nat) (st:Ad T),(D2 i vs st).so =st.so∧(D2 i vs st).gh =st.gh∧(D2 i vs st).pre =st.pre∧(D2 i vs st).m =st.m
 | [],_,_=>⟨rfl,rfl,rfl,rfl⟩
 | v::vs,i,st=>HM vs (i+1) (st.put (some i) v)
theorem JT: ∀ (vs:List (DV T)) (i:Nat) (st:Ad T) (j:Nat),lk (D2 i vs st).tm j=if i≤j∧j<i+vs.length then vs.getD (j - i) .u else lk st.tm j
 | [],i,st,j=>by
   rw [if_neg (by simp)];rfl
 | v::vs,i,st,j=>by
   rw [D2,JT vs (i+1) _ j,dK]
   grind
def Ad.enter (st:Ad T) (k:Nat) (args:List (DV T)) (n:Nat):Ad T:=D2 0 args ⟨n,[],st.so,(st.m,st.tm)::st.gh,k::st.pre,st.nx⟩
theorem dO {H:Am T} {st:Ad T} (h:Av H st) (k:Nat) {args:List (DV T)} (n:Nat) (ha:BR H st.nx args): ∃ H',Nx H st H' (st.enter k args n):=by
 refine JS (H1:=H) (st:=⟨n,[],st.so,(st.m,st.tm)::st.gh,k::st.pre,st.nx⟩) ⟨B3.refl _ _,Nat.le_refl _,⟨fun _ _ _ hm=>by simp at hm,fun f hf=>?_,h.so,h.nd⟩⟩ ha
 rcases List.mem_cons.1 hf with rfl | hf
 ·exact h.tm
 ·exact h.gh f hf
theorem PM {m:Nat} {tm:Tm T} {vs:List (DV T)} (hl:vs.length≤m) (h: ∀ j,lk tm j=if j<vs.length then vs.getD j .u else .u):At m tm=AH vs++List.replicate (m - (AH vs).length) .undef :=by
 rw [EU]
 apply List.ext_getElem?
 intro i
 unfold At
 rw [List.getElem?_map]
 by_cases hi:i<vs.length
 ·rw [List.getElem?_range (by omega),List.getElem?_append_left (by rw [EU];exact hi)]
  simp_all [Ih]
 ·rw [List.getElem?_append_right (by rw [EU];omega),EU,List.getElem?_replicate]
  by_cases hm:i<m
  all_goals simp_all [DV.toV]
theorem XY {st:Ad T} {k:Nat} {args:List (DV T)} {n:Nat} (hl:args.length≤n):(st.enter k args n).toSt =st.toSt.enter k (AH args) n:=by
 obtain⟨a,b,c,d⟩:=HM args 0 (⟨n,[],st.so,(st.m,st.tm)::st.gh,k::st.pre,st.nx⟩:Ad T)
 unfold Ad.enter
 simp only [Ad.toSt,a,b,c,d,St.enter,List.flatMap_cons]
 rw [PM hl]
 intro j
 rw [JT]
 simp only [Nat.zero_le,true_and,Nat.zero_add,Nat.sub_zero]
 rfl
def Ad.back (st st0:Ad T) (d:Option Nat) (v:DV T):Option (Ad T):=match st.gh with
 | (m',tm')::g=>match Nat.beq m' st0.m with
   | true=>some (({st with m:=m',tm:=tm',gh:=g,pre:=st0.pre}:Ad T).put d v)
   | false=>none
 | []=>none
theorem AS (m:Nat) (tm:Tm T):(At m tm).length =m:=by simp [At]
theorem aX {H H1:Am T} {st st0 b:Ad T} {d:Option Nat} {v:DV T} (hN:Nx H st0 H1 st) (hv:v.ok H1 st.nx) (h:st.back st0 d v=some b):(∃ H',Nx H st0 H' b)∧b.toSt=st.toSt.back st0.m st0.pre d v.toV∧b.pre=st0.pre:=by
 unfold Ad.back at h
 split at h
 ·rename_i m' tm' g hg
  split at h
  ·rename_i hm
   have hm:=Nat.eq_of_beq_eq_true hm
   injection h with h;subst h
   have hgh:=hN.ok.gh
   rw [hg]at hgh
   have n1:Nx H st0 H1 ({st with m:=m',tm:=tm',gh:=g,pre:=st0.pre}:Ad T):=⟨hN.ext,hN.le,(by simp_all),(by grind),hN.ok.so,hN.ok.nd⟩
   refine⟨Ad.put_spec n1 d hv,?_,by rw [AB]⟩
   grind [Ad.put_toSt,Ad.toSt,St.back,AS]
  ·cases h
 ·cases h
def Ze (P:Program) (st:Ad T):ResultVar→M (DV T)
 | .tmp t=> .ret (st.get t)
 | .cell t Ty=>VO P Ty [] st (st.get t)
def XZ (P:Program) (st:Ad T):List ResultVar→M (List (DV T))
 | []=> .ret []
 | x::xs=> .bnd (Ze P st x) fun v=> .bnd (XZ P st xs) fun vs=> .ret (v::vs)
def dP (P:Program) (st:Ad T):List ResultVar→M (DV T)
 | [x]=>Ze P st x
 | xs=> .bnd (XZ P st xs) fun vs=> .ret (.tup vs)
section
variable {H:Am T} {P:Program} {st:Ad T}
theorem PN (hw:Av H st) (x:ResultVar):Yl (Ze P st x) (fun v=>v.ok H st.nx∧(I7 P st.toSt x).1∧(I7 P st.toSt x).2=v.toV):=by
 cases x with
 | tmp t=>exact Yl.ret ⟨Ad.get_ok hw t,trivial,by simp only [I7];exact st.get_toSt t⟩
 | cell t Ty=>
   refine(O7 (key:=[]) hw (fun _=>Ad.get_ok hw t)).mono fun v hv=>?_
   obtain⟨a,b,c⟩:=hv rfl
   simp only [I7,st.get_toSt]
   grind
theorem Su (hw:Av H st): ∀ xs:List ResultVar,Yl (XZ P st xs) (fun vs=>BR H st.nx vs∧(CQ P st.toSt xs).1∧(CQ P st.toSt xs).2=AH vs)
 | []=>Yl.ret (by simp_all [BR,CQ,AH])
 | x::xs=>Yl.bnd (PN hw x) fun v hv=>Yl.bnd (Su hw xs) (by simp_all [Yl.ret,BR,CQ,AH])
theorem hO (hw:Av H st) (xs:List ResultVar):Yl (dP P st xs) (fun v=>v.ok H st.nx∧(Cu P st.toSt xs).1∧(Cu P st.toSt xs).2=v.toV):=by
 unfold dP
 split
 ·rename_i x
  exact PN hw x
 ·rename_i hne
  refine Yl.bnd (Su hw _) fun vs hvs=>Yl.ret ?_
  obtain⟨a,b,c⟩:=hvs
  have:Cu P st.toSt xs=((CQ P st.toSt xs).1, .tup (CQ P st.toSt xs).2):=by
   unfold Cu
   grind
  simp_all [DV.ok,DV.toV]
end
end Go.PL
namespace Go.PL
open Go Go.RowKit
variable {T:AN}
mutual
def DC.menP (p:Ae→Bool):DC T→Bool
 | .c x=>x.menP p
 | .rp i _ _ _=>p i
 | .ap i _ _ _ _ _=>p i
 | .bs i _ _ _=>p i
 | .clo _ _ cs=>JU p cs
 | .k _ _=>false
 | .ip .. =>false
def JU (p:Ae→Bool):List (DC T)→Bool
 | []=>false
 | c::cs=>match c.menP p with
   | true=>true
   | false=>JU p cs
end
mutual
theorem DC.menP_eq (p:Ae→Bool): ∀ c:DC T,c.menP p=c.toC.menP p
 | .c x=>by simp only [DC.menP,DC.toC]
 | .rp .. =>by simp only [DC.menP,DC.toC,C.menP]
 | .ap .. =>by simp only [DC.menP,DC.toC,C.menP]
 | .bs .. =>by simp only [DC.menP,DC.toC,C.menP]
 | .clo true _ cs=>by simp only [DC.menP,DC.toC,C.menP,DP p cs]
 | .clo false _ cs=>by simp only [DC.menP,DC.toC,C.menP,DP p cs]
 | .k kd x=>by cases kd<;>simp only [DC.menP,DC.toC,AQ,C.menP]
 | .ip .. =>by simp only [DC.menP,DC.toC,C.menP]
theorem DP (p:Ae→Bool): ∀ cs:List (DC T),JU p cs=BF p (Al cs)
 | []=>by simp only [JU,Al,BF]
 | c::cs=>by
   simp only [JU,Al,BF,DC.menP_eq p c,DP p cs]
   cases c.toC.menP p<;>rfl
end
mutual
def DV.menP (p:Ae→Bool):DV T→Bool
 | .c x=>x.menP p
 | .agg cs=>JU p cs
 | .tup vs=>T6 p vs
 | .g _ v=>v.menP p
 | .u =>false
def T6 (p:Ae→Bool):List (DV T)→Bool
 | []=>false
 | v::vs=>match v.menP p with
   | true=>true
   | false=>T6 p vs
end
mutual
theorem DV.menP_le (p:Ae→Bool): ∀ v:DV T,v.menP p=false→v.toV.menP p=false
 | .c x,h=>by grind [DV.menP,DV.toV,V.menP,DC.menP_eq]
 | .agg cs,h=>by grind [DV.menP,DV.toV,V.menP,DP]
 | .tup vs,h=>by simp only [DV.menP]at h;simp only [DV.toV,V.menP];exact Sv p vs h
 | .g k v,h=>by simp only [DV.menP]at h;simp only [DV.toV,V.menP,DV.menP_le p v h]
 | .u,_=>by simp only [DV.toV,V.menP]
theorem Sv (p:Ae→Bool): ∀ vs:List (DV T),T6 p vs=false→Ig p (AH vs)=false
 | [],_=>by simp only [AH,Ig]
 | v::vs,h=>by
   simp only [T6]at h
   split at h
   ·cases h
   ·rename_i hv
    simp only [AH,Ig,DV.menP_le p v hv,Sv p vs h,Bool.or_self]
end
def HN (p:Ae→Bool) (c:DC T):DC T:=match c.menP p with
 | true=> .c .any
 | false=>c
def DX.menP (p:Ae→Bool):DX T→Bool
 | .box cs=>JU p cs
 | .row _ _=>false
 | .deep .. =>false
def IX (p:Ae→Bool):DX T→DX T
 | .box cs=> .box (cs.map (HN p))
 | x=>x
theorem PO {p:Ae→Bool} {c:DC T} (h:c.ok):(HN p c).ok :=by
 grind [HN,DC.ok]
theorem Iz (p:Ae→Bool) (c:DC T):(HN p c).toC =Bx p c.toC:=by
 grind [HN,Bx,DC.menP_eq,DC.toC]
theorem IY {p:Ae→Bool} {v:V} (h:v.menP p=false):AV p v=v:=by simp_all [AV]
theorem Mf {p:Ae→Bool}: ∀ {l:List C},BF p l=false→l.map (Bx p)=l
 | [],_=>rfl
 | c::l,h=>by
   simp only [BF,Bool.or_eq_false_iff]at h
   rw [List.map_cons,Mf h.2,Bx,if_neg (by simp [h.1])]
theorem Wh {p:Ae→Bool} {e:DE T} (t:Nat):(⟨e.id,t,IX p e.x⟩:DE T).toE =Ak.killP p e.toE:=by
 unfold DE.toE
 cases hxx:e.x with
 | box cs=>
   simp only [IX,Ak.killP,BB,List.map_map,Ak.mk.injEq,and_true,true_and]
   grind [List.map_congr_left,Iz]
 | row E l=>rfl
 | deep E n l h=>rfl
theorem aY {p:Ae→Bool} {e:DE T} (h:e.x.menP p=false):Ak.killP p e.toE=e.toE:=by
 grind [DE.toE,DX.menP,DP,Ak.killP,Mf]
theorem Sw {p:Ae→Bool} {m n:Nat} {tm:Tm T}:Fw ((At m tm).map (AV p)) (At m (I9 (DV.menP p) (fun _=> .u) n tm)):=by
 unfold At
 rw [List.map_map]
 refine Fw.map fun i _=>?_
 simp only [Function.comp,HF (p:=DV.menP p) (f:=fun _=>DV.u) (by simp [DV.menP])]
 grind [DV.toV,IY,DV.menP_le]
theorem dQ {p:Ae→Bool}: ∀ (l:List (Nat×Tm T)) (n:Nat),Fw ((l.flatMap fun f=>At f.1 f.2).map (AV p)) ((JG (DV.menP p) (fun _=> .u) n l).flatMap fun f=>At f.1 f.2)
 | [],_=>trivial
 | (m,tm)::r,n=>by
   simp only [JG,List.flatMap_cons,List.map_append]
   exact Sw.append (dQ r _)
def Ad.killF (st:Ad T) (p:Ae→Bool):Ad T:=let s:=st.remap (DV.menP p) (fun _=> .u) (DX.menP p) (IX p);{s with so:=s.so.filter fun e=> !(p e.id)}
theorem Wi (p:Ae→Bool) (l:List (DE T)):(l.filter fun e=> !(p e.id)).map DE.toE=(l.map DE.toE).filter fun e=> !(p e.id):=by
 induction l with
 | nil=>rfl
 | cons e l ih=>
   simp only [List.filter_cons,List.map_cons,DE.toE_id]
   grind
theorem T7 (p:Ae→Bool) (l:List Ak):(l.map (Ak.killP p)).filter (fun e=> !(p e.id))=(l.filter (fun e=> !(p e.id))).map (Ak.killP p):=by
 induction l<;>grind [Ak.killP_id]
theorem Ad.killF_spec {H:Am T} {st:Ad T} (h:Av H st) (p:Ae→Bool):(∃ H',Nx H st H' (st.killF p))∧Fw (st.toSt.tm.map (AV p)) (st.killF p).toSt.tm ∧Fw (st.toSt.gh.map (AV p)) (st.killF p).toSt.gh ∧
 (st.killF p).toSt.so =(st.toSt.so.filter fun e=> !(p e.id)).map (Ak.killP p)∧(st.killF p).pre =st.pre∧ ∀ e∈(st.killF p).so,p e.id=false:=by
 obtain⟨H',hN⟩:=Ad.remap_nx (p:=DV.menP p) (f:=fun _=> .u) (q:=DX.menP p) (g:=IX p) h (fun _=>by simp only [DV.ok]) (fun {x} hx=>by
  cases x with
  | box cs=>
    simp only [IX,DX.ok]at hx ⊢
    refine B8.2 fun c hc=>?_
    obtain⟨d,h1,rfl⟩:=List.mem_map.1 hc
    grind [PO,B8]
  | row E l=>exact hx
  | deep E n l h=>exact hx)
 refine⟨⟨H',hN.ext,hN.le,CX hN.ok _⟩,Sw,dQ _ _,?_,rfl,fun e he=>?_⟩
 ·show ((JH (DX.menP p) (IX p) (st.nx+st.tm.length+HX st.gh) st.so).filter fun e=> !(p e.id)).map DE.toE=_
  rw [Wi,Im (F:=Ak.killP p) _ (fun e _=>⟨fun _ t=>Wh t,fun hm=>aY hm⟩)]
  exact T7 p _
 ·have:=(List.mem_filter.1 he).2
  grind
def AO:List (Ae×DX T)→Ad T→Ad T
 | [],st=>st
 | (i,x)::r,st=>let s:=AO r st;{s with so:=⟨i,s.nx,x⟩::s.so,nx:=s.nx+1}
def QO (p:Ae×DX T):Ak:=(⟨p.1,0,p.2⟩:DE T).toE
theorem Zf (i:Ae) (t:Nat) (x:DX T):(⟨i,t,x⟩:DE T).toE =QO (i,x):=by
 grind [QO,DE.toE]
theorem C3: ∀ (l:List (Ae×DX T)) (st:Ad T),(AO l st).tm =st.tm∧(AO l st).gh =st.gh∧(AO l st).pre =st.pre∧(AO l st).m =st.m∧(AO l st).toSt.so =l.map QO++st.toSt.so∧(AO l st).so.map DE.id=l.map (·.1)++st.so.map DE.id
 | [],st=>⟨rfl,rfl,rfl,rfl,rfl,rfl⟩
 | (i,x)::r,st=>by
   obtain⟨a,b,c,d,e,f⟩:=C3 r st
   simp_all [AO,Ad.toSt,Zf]
theorem FB {H:Am T} {st0 st:Ad T}: ∀ {l:List (Ae×DX T)} {H1:Am T},Nx H st0 H1 st→(∀ p∈l,p.2.ok)→(l.map (·.1)).Nodup →(∀ p∈l, ∀ e∈st.so,e.id ≠ p.1)→ ∃ H',Nx H st0 H' (AO l st)
 | [],H1,hn,_,_,_=>⟨H1,hn⟩
 | (i,x)::r,H1,hn,hx,hd,hf=>by
   simp only [List.map_cons,List.nodup_cons]at hd
   obtain⟨H2,h2⟩:=FB hn (by grind) hd.2 (by grind)
   have he:=B3.setE H2 (AO r st).nx ⟨i,(AO r st).nx,x⟩
   refine⟨H2.setE (AO r st).nx ⟨i,(AO r st).nx,x⟩,h2.trans ⟨he,Nat.le_succ _,?_,?_,?_,?_⟩⟩
   ·exact Bg he (Nat.le_succ _) h2.ok.tm
   ·exact fun f hm=>Bg he (Nat.le_succ _) (h2.ok.gh f hm)
   ·intro e hm
    rcases List.mem_cons.1 hm with rfl | hm
    ·exact⟨Nat.lt_succ_self _,by simp [Am.setE],hx (i,x) (by simp)⟩
    ·exact Dh he (Nat.le_succ _) h2.ok.so e hm
   ·show (i::(AO r st).so.map DE.id).Nodup
    refine List.nodup_cons.2 ⟨fun hm=>?_,h2.ok.nd⟩
    rw [(C3 r st).2.2.2.2.2]at hm
    rcases List.mem_append.1 hm with hm | hm
    ·grind
    ·obtain⟨e,h3,h4⟩:=List.mem_map.1 hm
     simp_all
def hP (m:Nat) (id:Ae):(k:Kd)→KZ T.den k→List (Ae×DX T)
 | .lst E,l=>match m with
   | 1=>[(id, .row E l)]
   | 2=>[(1000003::id, .deep E (List.length l:Nat) l none)]
   | _=>[]
 | _,_=>[]
def X0:List Nat→Nat→Ae→(ks:List Kd)→DK T.den ks→List (Ae×DX T)
 | m::ms,i,suf,k::ks,x=>hP m (i::suf) k x.1++X0 ms (i+1) suf ks x.2
 | _,_,_,_,_=>[]
def Zg:List (List Nat)→Nat→Ae→(ts:List VT)→RT T ts→List (Ae×DX T)
 | m::_,p,suf,[t],x=>X0 m 0 (p::suf) (HG T t) (TT t x)
 | m::ms,p,suf,t::u::ts,x=>X0 m 0 (p::suf) (HG T t) (TT t x.1)++Zg ms (p+1) suf (u::ts) x.2
 | _,_,_,_,_=>[]
def aZ (m:Nat) (id:Ae) (k:Kd) (x:KZ T.den k):DC T:=match Wc m k with
 | 0=> .k k x
 | _=>match m with
   | 2=> .c (.osl (1000003::id))
   | _=> .c (.osl id)
def Mg:List Nat→Nat→Ae→(ks:List Kd)→DK T.den ks→List (DC T)
 | m::ms,i,suf,k::ks,x=>aZ m (i::suf) k x.1::Mg ms (i+1) suf ks x.2
 | [],i,suf,k::ks,x=> .k k x.1::Mg [] i suf ks x.2
 | _,_,_,[],_=>[]
def QP (m:List Nat) (suf:Ae):(t:VT)→DL T t→DV T
 | .k kd,x=> .c (aZ (m.headD 0) (0::suf) kd x)
 | .s E,x=> .agg (Mg m 0 suf (T.ks E) (T.un E x))
 | .f g,_=> .c (.c (.fn g))
def H7:List (List Nat)→Nat→Ae→(ts:List VT)→RT T ts→List (DV T)
 | m::_,p,suf,[t],x=>[QP m (p::suf) t x]
 | [],p,suf,[t],x=>[QP [] (p::suf) t x]
 | m::ms,p,suf,t::u::ts,x=>QP m (p::suf) t x.1::H7 ms (p+1) suf (u::ts) x.2
 | [],p,suf,t::u::ts,x=>QP [] (p::suf) t x.1::H7 [] (p+1) suf (u::ts) x.2
 | _,_,_,[],_=>[]
def mF (ow:List (List Nat)) (suf:Ae) (ts:List VT) (x:RT T ts):DV T:=match H7 ow 0 suf ts x with
 | [v]=>v
 | vs=> .tup vs
theorem Mh (m:Nat) (id:Ae) (k:Kd) (x:KZ T.den k):(Y7 m k x).length =(Py m id k).length ∧(Py m id k).length =Wc m k:=by
 cases k with
 | lst E=>
   match m with
   | 0=>exact⟨rfl,rfl⟩
   | 1=>exact⟨rfl,rfl⟩
   | 2=>exact⟨rfl,rfl⟩
   | _+3=>exact⟨rfl,rfl⟩
 | _=>exact⟨rfl,rfl⟩
theorem HO: ∀ {a b:List OE} {i j:List Ae},a.length=i.length→Cs (a++b) (i++j)=Cs a i++Cs b j
 | [],_,[],_,_=>rfl
 | [],_,_::_,_,h=>by simp at h
 | _::_,_,[],_,h=>by simp at h
 | o::a,b,x::i,j,h=>by simp only [List.cons_append,Cs,HO (a:=a) (i:=i) (by simpa using h)]
theorem a5 (m:Nat) (id:Ae) (k:Kd) (x:KZ T.den k):(hP m id k x).map QO=Cs (Y7 m k x) (Py m id k)∧(hP m id k x).map (·.1)=Py m id k∧ ∀ p∈hP m id k x,p.2.ok:=by
 cases k with
 | lst E=>
   match m with
   | 0=>exact⟨rfl,rfl,fun p hp=>by cases hp⟩
   | 1=>exact⟨rfl,rfl,fun p hp=>by rcases List.mem_singleton.1 hp with rfl;trivial⟩
   | 2=>exact⟨rfl,rfl,fun p hp=>by rcases List.mem_singleton.1 hp with rfl;trivial⟩
   | _+3=>exact⟨rfl,rfl,fun p hp=>by cases hp⟩
 | _=>exact⟨rfl,rfl,fun p hp=>by cases hp⟩
theorem JV: ∀ (ms:List Nat) (i:Nat) (suf:Ae) (ks:List Kd) (x:DK T.den ks),(Iw ms ks x).length =(Hc ms i suf ks).length ∧(Hc ms i suf ks).length =Y9 ms ks
 | [],_,_,_,_=>⟨rfl,rfl⟩
 | _::_,_,_,[],_=>⟨rfl,rfl⟩
 | m::ms,i,suf,k::ks,x=>by
   obtain⟨a,b⟩:=JV ms (i+1) suf ks x.2
   obtain⟨c,d⟩:=Mh m (i::suf) k x.1
   simp_all [Iw,Hc,Y9]
theorem Mi: ∀ (ms:List Nat) (i:Nat) (suf:Ae) (ks:List Kd) (x:DK T.den ks),(X0 ms i suf ks x).map QO=Cs (Iw ms ks x) (Hc ms i suf ks)∧(X0 ms i suf ks x).map (·.1)=Hc ms i suf ks∧ ∀ p∈X0 ms i suf ks x,p.2.ok
 | [],_,_,_,_=>⟨rfl,rfl,fun p hp=>by cases hp⟩
 | _::_,_,_,[],_=>⟨rfl,rfl,fun p hp=>by cases hp⟩
 | m::ms,i,suf,k::ks,x=>by
   obtain⟨a,b,c⟩:=Mi ms (i+1) suf ks x.2
   grind [a5,X0,Iw,Hc,HO,Mh]
theorem Wj: ∀ (ow:List (List Nat)) (p:Nat) (suf:Ae) (ts:List VT) (x:RT T ts),(Zg ow p suf ts x).map QO=Cs (Nh ow ts x) (Pz T ow p suf ts)∧(Zg ow p suf ts x).map (·.1)=Pz T ow p suf ts∧ ∀ q∈Zg ow p suf ts x,q.2.ok
 | [],_,_,[],_=>⟨rfl,rfl,fun q hq=>by cases hq⟩
 | [],_,_,[_],_=>⟨rfl,rfl,fun q hq=>by cases hq⟩
 | [],_,_,_::_::_,_=>⟨rfl,rfl,fun q hq=>by cases hq⟩
 | _::_,_,_,[],_=>⟨rfl,rfl,fun q hq=>by cases hq⟩
 | m::ms,p,suf,[t],x=>by
   obtain⟨a,b,c⟩:=Mi m 0 (p::suf) (HG T t) (TT t x)
   have e:Pz T (m::ms) p suf [t]=Hc m 0 (p::suf) (HG T t):=by
    cases ms<;>simp [Pz]
   rw [e]
   exact⟨a,b,c⟩
 | m::ms,p,suf,t::u::ts,x=>by
   obtain⟨a,b,c⟩:=Mi m 0 (p::suf) (HG T t) (TT t x.1)
   obtain⟨a',b',c'⟩:=Wj ms (p+1) suf (u::ts) x.2
   refine⟨?_,?_,fun q hq=>?_⟩
   ·grind [Zg,Nh,Pz,HO,JV]
   all_goals grind [Zg,Pz]
theorem Mj (m:Nat) (id:Ae) (k:Kd) (x:KZ T.den k) (pre post:List Ae):(aZ m id k x).toC =(Y8 m pre.length k x).toC (pre++(Py m id k++post)):=by
 unfold aZ Y8 Py
 grind [PC.toC,DC.toC]
theorem Mk: ∀ (ms:List Nat) (i:Nat) (suf:Ae) (ks:List Kd) (x:DK T.den ks) (pre post:List Ae),Al (Mg ms i suf ks x)=(Nf ms pre.length ks x).map (PC.toC (pre++(Hc ms i suf ks++post)))
 | [],_,_,[],_,_,_=>by simp [Mg,Nf,Al]
 | _::_,_,_,[],_,_,_=>by simp [Mg,Nf,Al]
 | [],i,suf,k::ks,x,pre,post=>by
   have:=Mk [] i suf ks x.2 pre post
   simp only [Mg,Nf,Al,List.map_cons,PC.toC,DC.toC,List.cons.injEq,true_and]
   exact this
 | m::ms,i,suf,k::ks,x,pre,post=>by
   have h1:=Mj m (i::suf) k x.1 pre (Hc ms (i+1) suf ks++post)
   have h2:=Mk ms (i+1) suf ks x.2 (pre++Py m (i::suf) k) post
   rw [List.length_append,(Mh m (i::suf) k x.1).2]at h2
   grind [Mg,Nf,Al,Hc]
theorem IZ (m:List Nat) (suf:Ae) (t:VT) (x:DL T t) (pre post:List Ae):(QP m suf t x).toV =(Ng m pre.length t x).toV (pre++(Hc m 0 suf (HG T t)++post)):=by
 cases t with
 | k kd=>
   simp only [QP,Ng,PP.toV,DV.toV,HG]
   cases m with
   | nil=>
     have:=Mj 0 (0::suf) kd x pre post
     have e:Py 0 (0::suf) kd=[]:=by unfold Py Wc;grind
     grind [Hc]
   | cons a m=>
     grind [Mj,Hc]
 | s E=>grind [QP,Ng,PP.toV,DV.toV,Mk,HG]
 | f g=>simp only [QP,Ng,PP.toV,DV.toV,DC.toC,PC.toC]
theorem Ml: ∀ (ow:List (List Nat)) (p:Nat) (suf:Ae) (ts:List VT) (x:RT T ts) (pre post:List Ae),AH (H7 ow p suf ts x)=(Gz ow pre.length ts x).map (PP.toV (pre++(Pz T ow p suf ts++post)))
 | [],_,_,[],_,_,_=>by simp [H7,Gz,AH]
 | _::_,_,_,[],_,_,_=>by simp [H7,Gz,AH]
 | [],p,suf,[t],x,pre,post=>by
   have:=IZ [] (p::suf) t x pre post
   grind [Hc,H7,Gz,AH,Pz]
 | m::ms,p,suf,[t],x,pre,post=>by
   have:=IZ m (p::suf) t x pre post
   grind [Pz,H7,Gz,AH]
 | [],p,suf,t::u::ts,x,pre,post=>by
   have h1:=IZ [] (p::suf) t x.1 pre post
   have e:Hc [] 0 (p::suf) (HG T t)=[]:=by cases HG T t<;>rfl
   rw [e]at h1
   have h2:=Ml [] (p+1) suf (u::ts) x.2 pre post
   simp only [H7,Gz,AH,List.map_cons,h1,h2,Pz]
 | m::ms,p,suf,t::u::ts,x,pre,post=>by
   have h1:=IZ m (p::suf) t x.1 pre (Pz T ms (p+1) suf (u::ts)++post)
   have h2:=Ml ms (p+1) suf (u::ts) x.2 (pre++Hc m 0 (p::suf) (HG T t)) post
   rw [List.length_append,(JV m 0 (p::suf) (HG T t) (TT t x.1)).2]at h2
   grind [H7,Gz,AH,Pz]
theorem dR (ow:List (List Nat)) (suf:Ae) (ts:List VT) (x:RT T ts):(mF ow suf ts x).toV =Pt (Pz T ow 0 suf ts) (Gz ow 0 ts x):=by
 have h:=Ml ow 0 suf ts x [] []
 simp only [List.length_nil,List.nil_append,List.append_nil]at h
 unfold mF Pt
 split
 ·rename_i v hv
  rw [hv]at h
  simp only [AH]at h
  split
  ·grind
  ·rename_i hne
   match hp:Gz ow 0 ts x,h,hne with
   | [p],_,hne=>grind
   | [],h,_=>simp at h
   | _::_::_,h,_=>simp at h
 ·rename_i hne
  split
  ·rename_i p hp
   rw [hp]at h
   match hv:H7 ow 0 suf ts x,h,hne with
   | [v],_,hne=>grind
   | [],h,_=>simp [AH]at h
   | _::_::_,h,_=>simp [AH]at h
  ·simp only [DV.toV,h]
theorem Zh (m:Nat) (id:Ae) (k:Kd) (x:KZ T.den k):(aZ m id k x).ok :=by
 unfold aZ
 grind [DC.ok]
theorem T8: ∀ (ms:List Nat) (i:Nat) (suf:Ae) (ks:List Kd) (x:DK T.den ks),Bs (Mg ms i suf ks x)
 | [],_,_,[],_=>by simp [Mg,Bs]
 | _::_,_,_,[],_=>by simp [Mg,Bs]
 | [],i,suf,k::ks,x=>by simp only [Mg,Bs,DC.ok,true_and];exact T8 [] i suf ks x.2
 | m::ms,i,suf,k::ks,x=>by simp only [Mg,Bs];exact⟨Zh _ _ _ _,T8 ms (i+1) suf ks x.2⟩
theorem NY {H:Am T} {n:Nat} (m:List Nat) (suf:Ae) (t:VT) (x:DL T t):(QP m suf t x).ok H n:=by
 cases t<;>grind [QP,DV.ok,Zh,T8,DC.ok]
theorem T9 {H:Am T} {n:Nat}: ∀ (ow:List (List Nat)) (p:Nat) (suf:Ae) (ts:List VT) (x:RT T ts),BR H n (H7 ow p suf ts x)
 | [],_,_,[],_=>by simp [H7,BR]
 | _::_,_,_,[],_=>by simp [H7,BR]
 | [],p,suf,[t],x=>by simp only [H7,BR,and_true];exact NY _ _ _ _
 | m::ms,p,suf,[t],x=>by simp only [H7,BR,and_true];exact NY _ _ _ _
 | [],p,suf,t::u::ts,x=>by simp only [H7,BR];exact⟨NY _ _ _ _,T9 [] (p+1) suf (u::ts) x.2⟩
 | m::ms,p,suf,t::u::ts,x=>by simp only [H7,BR];exact⟨NY _ _ _ _,T9 ms (p+1) suf (u::ts) x.2⟩
theorem kR {H:Am T} {n:Nat} (ow:List (List Nat)) (suf:Ae) (ts:List VT) (x:RT T ts):(mF ow suf ts x).ok H n:=by
 have:=T9 (H:=H) (n:=n) ow 0 suf ts x
 unfold mF
 split
 all_goals simp_all [BR,DV.ok]
def nh (m:Nat) (id:Ae) (k:Kd):Bool:=match Wc m k with
 | 0=>true
 | _=>match m with
   | 2=>true
   | _=> !Db id&& !BX id
def hY:List Nat→Nat→Ae→List Kd→Bool
 | m::ms,i,suf,k::ks=>nh m (i::suf) k&&hY ms (i+1) suf ks
 | _,_,_,_=>true
def ni (T:AN):List (List Nat)→Nat→Ae→List VT→Bool
 | m::ms,p,suf,t::ts=>hY m 0 (p::suf) (HG T t)&&ni T ms (p+1) suf ts
 | _,_,_,_=>true
theorem IA: ∀ {a b:List OE} {i j:List Ae},H6 a i=true→H6 b j=true→H6 (a++b) (i++j)=true
 | [],_,[],_,_,h=>h
 | [],_,_::_,_,h,_=>by simp [H6]at h
 | _::_,_,[],_,h,_=>by simp [H6]at h
 | o::a,b,x::i,j,h,k=>by
   simp_all [H6,IA]
theorem a6 {m:Nat} {id:Ae} {k:Kd} (x:KZ T.den k) (h:nh m id k=true):H6 (Y7 m k x) (Py m id k)=true:=by
 cases k with
 | lst E=>
   match m with
   | 0=>rfl
   | 1=>
     have h:(!Db id&& !BX id)=true:=h
     simp only [Bool.and_eq_true,Bool.not_eq_true']at h
     show ((Db id==false&& !BX id)&&true)=true
     grind
   | 2=>rfl
   | _+3=>rfl
 | _=>rfl
theorem Mm: ∀ {ms:List Nat} {i:Nat} {suf:Ae} {ks:List Kd} (x:DK T.den ks),hY ms i suf ks=true→H6 (Iw ms ks x) (Hc ms i suf ks)=true
 | [],_,_,_,_,_=>rfl
 | _::_,_,_,[],_,_=>rfl
 | m::ms,i,suf,k::ks,x,h=>by
   simp only [hY,Bool.and_eq_true]at h
   exact IA (a6 x.1 h.1) (Mm x.2 h.2)
theorem Wl: ∀ {ow:List (List Nat)} {p:Nat} {suf:Ae} {ts:List VT} (x:RT T ts),ni T ow p suf ts=true→H6 (Nh ow ts x) (Pz T ow p suf ts)=true
 | [],_,_,[],_,_=>rfl
 | [],_,_,[_],_,_=>rfl
 | [],_,_,_::_::_,_,_=>rfl
 | _::_,_,_,[],_,_=>rfl
 | m::ms,p,suf,[t],x,h=>by
   simp only [ni,Bool.and_eq_true]at h
   have e:Pz T (m::ms) p suf [t]=Hc m 0 (p::suf) (HG T t):=by cases ms<;>simp [Pz]
   rw [e]
   exact Mm (TT t x) h.1
 | m::ms,p,suf,t::u::ts,x,h=>by
   rw [ni,Bool.and_eq_true]at h
   rw [Pz]
   exact IA (Mm (TT t x.1) h.1) (Wl x.2 h.2)
def GN (ns:List Ae) (i:Ae):Bool:=match ns with
 | []=>false
 | n::r=>match AG i n with
   | true=>true
   | false=>match ofDT n i with
     | true=>true
     | false=>GN r i
where ofDT (n i:Ae):Bool:=match i with
 | m::_::j=>Nat.beq m 1000007&&AG j n
 | _=>false
theorem Zi: ∀ (ns:List Ae) (i:Ae),GN ns i=GR ns i
 | [],_=>rfl
 | n::r,i=>by
   have e:GN.ofDT n i=CI n i:=by
    unfold GN.ofDT CI
    split<;>simp [BJ]
   simp only [GN,GR,List.any_cons,e,BJ]
   have:=Zi r i
   unfold GR at this
   rw [this]
   cases i==n<;>cases CI n i<;>rfl
def X1 {P:Program} {I:World→Prop} (Γ:List (CE T P I)) (st:Ad T) (f:FuncId) (xs:List Operand) (d:Nat):M (Ad T):=
 match Fj st [] xs with
 | some vs=>match HH st vs,Lb vs with
   | some ws,[]=>match JN f ws Γ with
     | some ⟨e,x⟩=>match e.ow with
       | []=> .no
       | m::ms=>mIf (JB (Pz T (m::ms) 0 (d::st.pre) e.rs)&&ni T (m::ms) 0 (d::st.pre) e.rs) (.opt (e.run x) fun r=>
          .ret ((AO (Zg (m::ms) 0 (d::st.pre) e.rs r) (st.killF (GN (Pz T (m::ms) 0 (d::st.pre) e.rs)))).put (some d) (mF (m::ms) (d::st.pre) e.rs r)))
     | none=> .no
   | _,_=> .no
 | none=> .no
theorem a7 {H:Am T} {P:Program} {I:World→Prop} {Γ:List (CE T P I)} {st:Ad T} (hw:Av H st) {f:FuncId} {xs:List Operand} {o:Oper} (hk:A2 o.op= .call f xs) {d:Nat} (hd:o.dst=some d):
 Yl (X1 Γ st f xs d) (fun st'=>(∃ H',Nx H st H' st')∧st'.pre=st.pre∧ ∀ K:St→Prop,K st'.toSt→Dk P I o st.toSt K):=by
 unfold X1
 split
 ·rename_i vs hvs
  split
  ·rename_i ws hws htop
   split
   ·rename_i e x hx
    obtain⟨he,hx⟩:=DM hx
    split
    ·exact Yl.no
    ·rename_i m ms how
     refine Yl.mIf fun hg=>Yl.opt fun r hr=>Yl.ret ?_
     simp only [Bool.and_eq_true]at hg
     obtain⟨g1,g2⟩:=hg
     have hnd:=EP g1
     obtain⟨a1,a2,a3⟩:=Cg (key:=[]) hw (fun _ hl=>by cases hl) rfl hvs
     change (st.toSt.args true xs).1 at a2
     change (st.toSt.args true xs).2=AH vs at a3
     have hc:=e.okx (by grind) x r hr
     rw [he,how]at hc
     have hs:(AH vs).map (A1 st.toSt)=D0 e.ps x:=by rw [D1 hws,hx]
     have hp:GN (Pz T (m::ms) 0 (d::st.pre) e.rs)=GR (Pz T (m::ms) 0 (d::st.pre) e.rs):=by grind [Zi]
     rw [hp]
     generalize hns:Pz T (m::ms) 0 (d::st.pre) e.rs=ns at *
     obtain⟨⟨H1,n1⟩,k1,k2,k3,k4,k5⟩:=Ad.killF_spec hw (GR ns)
     obtain⟨x1,x2,x3⟩:=Wj (m::ms) 0 (d::st.pre) e.rs r
     rw [hns]at x1 x2
     obtain⟨H2,n2⟩:=FB (l:=Zg (m::ms) 0 (d::st.pre) e.rs r) n1 x3 (by grind) (fun p hp' e' he' q=>by
      have h1:=k5 e' he'
      have h2:p.1∈ns:=by grind
      grind [GR])
     obtain⟨s1,s2,s3,s4,s5,_⟩:=C3 (Zg (m::ms) 0 (d::st.pre) e.rs r) (st.killF (GR ns))
     obtain⟨H3,n3⟩:=Ad.put_spec n2 (some d) (kR (m::ms) (d::st.pre) e.rs r)
     refine⟨⟨H3,n3⟩,by rw [AB,s3,k4],fun K hK=>?_⟩
     have hless:Bk ((st.toSt.killP (GR ns) (Cs (Nh (m::ms) e.rs r) ns++(st.toSt.so.filter fun e=> !(GR ns e.id)).map (Ak.killP (GR ns)))).put (some d) (Pt ns (Gz (m::ms) 0 e.rs r)))
      ((AO (Zg (m::ms) 0 (d::st.pre) e.rs r) (st.killF (GR ns))).put (some d) (mF (m::ms) (d::st.pre) e.rs r)).toSt :=by
      rw [Ad.put_toSt,dR,hns]
      refine Bk.put ?_ _ _
      have t1:(AO (Zg (m::ms) 0 (d::st.pre) e.rs r) (st.killF (GR ns))).toSt.tm =(st.killF (GR ns)).toSt.tm :=by grind [Ad.toSt]
      have t2:(AO (Zg (m::ms) 0 (d::st.pre) e.rs r) (st.killF (GR ns))).toSt.gh =(st.killF (GR ns)).toSt.gh :=by simp only [Ad.toSt,s2]
      have t3:(AO (Zg (m::ms) 0 (d::st.pre) e.rs r) (st.killF (GR ns))).toSt.so =Cs (Nh (m::ms) e.rs r) ns++(st.toSt.so.filter fun e=> !(GR ns e.id)).map (Ak.killP (GR ns)):=by grind
      refine⟨by rw [t1];exact k1.get.1,fun i=>by rw [t1];exact k1.get.2 i,fun y hy=>by rw [t3]at hy;exact hy,fun hn=>by rw [t3];exact hn,by rw [t2];exact k2.get,?_⟩
      show (AO (Zg (m::ms) 0 (d::st.pre) e.rs r) (st.killF (GR ns))).pre =st.pre
      rw [s3,k4]
     intro F a w G Q hI hR
     refine Oper.wp_mono (fun _ _ ⟨s,G',hs',hR'⟩=>⟨_,G',hK,(hs'▸hR').less hless⟩) (Dk.callX (K:=(· =(st.toSt.killP (GR ns) (Cs (Nh (m::ms) e.rs r) ns++(st.toSt.so.filter fun e=> !(GR ns e.id)).map (Ak.killP (GR ns)))).put (some d) (Pt ns (Gz (m::ms) 0 e.rs r)))) d hk hd a2 ?_ ?_ ?_ ?_ hnd rfl F a w G Q hI hR)
     ·grind [F8]
     ·rw [a3,Dw,htop]
     ·grind
     ·rw [←hns];exact Wl r g2
   ·exact Yl.no
  ·exact Yl.no
 ·exact Yl.no
end Go.PL
set_option linter.all false
namespace Go.PL
open Go Go.RowKit
variable {T:AN}
def Wm (E E':Nat) (l:List (T.den E')):Option (List (T.den E)):=match Nat.decEq E' E with
 | .isTrue h=>some (h▸l)
 | .isFalse _=>none
theorem JW {E E':Nat} {l:List (T.den E')} {m:List (T.den E)} (h:Wm E E' l=some m): ∃ e:E'=E,m=e▸l:=by
 unfold Wm at h
 split at h
 all_goals grind
theorem PQ {den:Nat→Type} {enc: ∀ E,den E→List C}: ∀ (ks:List Kd) (y:DK den ks),(Bf enc ks y).map NH=Bf enc ks y
 | [],_=>rfl
 | k::ks,y=>by
   simp only [Bf,List.map_cons,PQ ks y.2]
   cases k<;>rfl
theorem Nn: ∀ (ks:List Kd) (y:DK T.den ks),(Ba T ks y).map NH=Bf T.enc ks y
 | [],_=>rfl
 | k::ks,y=>by
   simp only [Ba,Bf,List.map_cons,Nn ks y.2]
   cases k<;>rfl
theorem PR (E:Nat) (n:Int): ∀ (k:Int) (l:List (T.den E)),(As T E n k l).map NH=l.flatMap (T.enc E)
 | _,[]=>rfl
 | k,x::l=>by
   rw [As,List.map_append,PR E n (k+1) l,List.flatMap_cons]
   congr 1
   split
   ·rw [AN.denc,Nn,T.encok]
   ·rw [←T.encok,PQ]
def nj (r id i:Ae):Bool:=match AG i r with
 | true=>true
 | false=>GN.ofDT id i
theorem GC (n i:Ae):GN.ofDT n i=CI n i:=by
 unfold GN.ofDT CI
 split<;>simp [BJ]
theorem kS (r id:Ae):nj r id=pD r id:=by
 grind [nj,pD,BJ,GC]
theorem setL_mem' {id:Ae} {t:Nat} {x:DX T}: ∀ {l:List (DE T)} {e:DE T},(l.map DE.id).Nodup →e∈L6 id t x l→(e∈l∧e.id ≠ id)∨e=⟨id,t,x⟩
 | [],e,_,h=>by cases h
 | a::r,e,hn,h=>by
   rw [List.map_cons]at hn
   obtain⟨n1,n2⟩:=List.nodup_cons.1 hn
   unfold L6 at h
   split at h
   ·rename_i hb
    have hb:=Az.1 hb
    grind
   ·rename_i hb
    rcases List.mem_cons.1 h with rfl | h
    ·exact .inl ⟨by simp,fun q=>by rw [Az.2 q]at hb;cases hb⟩
    ·rcases setL_mem' n2 h with ⟨h1,h2⟩ | h
     ·exact .inl ⟨by simp [h1],h2⟩
     ·exact .inr h
theorem Sx {H:Am T} {st:Ad T} (hw:Av H st) {p:Ae→Bool} {e:Ak} (h:e∈(st.killF p).toSt.so): ∃ d∈st.toSt.so,p d.id=false∧e=d.killP p:=by
 rw [(Ad.killF_spec hw p).2.2.2.1]at h
 grind
theorem GD {A B:St} (h1:Fw A.tm B.tm) (h2:Fw A.gh B.gh) (h3: ∀ e∈B.so,e∈A.so) (h4:(B.so.map (·.id)).Nodup) (h5:B.pre=A.pre):Bk A B:=⟨h1.get.1,h1.get.2,h3,fun _=>h4,h2.get,h5⟩
theorem Dl {H:Am T} {st:Ad T} (hw:Av H st):(st.toSt.so.map (·.id)).Nodup :=by
 have e:st.toSt.so.map (·.id)=st.so.map DE.id:=by
  grind [Ad.toSt,List.map_congr_left,DE.toE_id]
 rw [e];exact hw.nd
theorem Fp {α:Type} [Inhabited α] {l:List α} {i:Int} {x:α} (h:Gk l i=some x):0≤i∧i<(l.length:Int)∧l[i.toNat]? =some x:=by
 have hi:=Fh h
 have:=Vy h
 grind
def D3:(ks:List Kd)→DK T.den ks→Nat→Option ((F:Nat)×List (T.den F))
 | .lst F::_,y,0=>some ⟨F,y.1⟩
 | _::ks,y,p+1=>D3 ks y.2 p
 | _,_,_=>none
theorem IB: ∀ {ks:List Kd} {y:DK T.den ks} {p:Nat} {F:Nat} {l:List (T.den F)},D3 ks y p=some ⟨F,l⟩→(Ba T ks y)[p]? =some (.isl F (T.sz F) l.length (l.flatMap (T.enc F)))∧p<ks.length
 | [],_,_,_,_,h=>by simp [D3]at h
 | .lst F'::ks,y,0,F,l,h=>by
   simp only [D3,Option.some.injEq]at h
   injection h with h1 h2
   subst h1
   have h2:=eq_of_heq h2
   subst h2
   exact⟨rfl,by simp⟩
 | .int k::ks,y,0,F,l,h=>by simp [D3]at h
 | .bool ::ks,y,0,F,l,h=>by simp [D3]at h
 | .str ::ks,y,0,F,l,h=>by simp [D3]at h
 | k::ks,y,p+1,F,l,h=>by
   have h:D3 ks y.2 p=some ⟨F,l⟩:=by
    cases k<;>simpa only [D3] using h
   obtain⟨a,b⟩:=IB h
   exact⟨by simpa only [Ba,List.getElem?_cons_succ] using a,by simp;omega⟩
def D4 (F:Nat) (l:List (T.den F)):(ks:List Kd)→DK T.den ks→Nat→Option (DK T.den ks)
 | .lst F'::_,y,0=>match Nat.decEq F F' with
   | .isTrue h=>some (h▸l,y.2)
   | .isFalse _=>none
 | k::ks,y,p+1=>match D4 F l ks y.2 p with
   | some z=>some (y.1,z)
   | none=>none
 | _,_,_=>none
theorem HP {F:Nat} {l:List (T.den F)}: ∀ {ks:List Kd} {y z:DK T.den ks} {p:Nat},D4 F l ks y p=some z→Ba T ks z=(Ba T ks y).set p (.isl F (T.sz F) l.length (l.flatMap (T.enc F)))∧p<ks.length
 | [],_,_,_,h=>by simp [D4]at h
 | .lst F'::ks,y,z,0,h=>by
   simp only [D4]at h
   split at h
   ·rename_i e _
    subst e
    injection h with h
    subst h
    exact⟨rfl,by simp⟩
   ·cases h
 | .int k::ks,y,z,0,h=>by simp [D4]at h
 | .bool ::ks,y,z,0,h=>by simp [D4]at h
 | .str ::ks,y,z,0,h=>by simp [D4]at h
 | k::ks,y,z,p+1,h=>by
   have h:(match D4 F l ks y.2 p with | some z=>some ((y.1,z):KZ T.den k×DK T.den ks) | none=>none)=some z:=by
    cases k<;>simpa only [D4] using h
   split at h
   ·rename_i z' hz
    injection h with h
    subst h
    obtain⟨a,b⟩:=HP hz
    exact⟨by simp only [Ba,List.set_cons_succ];rw [a],by simp;omega⟩
   ·cases h
theorem JX {E:Nat} {n:Int} {c:C} {p:Nat} {x':T.den E}: ∀ {l:List (T.den E)} {k:Int} {i:Nat} {x:T.den E},l[i]? =some x→k+i<n→T.denc E x'=(T.denc E x).set p c→p<T.sz E→(As T E n k l).set (i*T.sz E+p) c=As T E n k (l.set i x')
 | [],_,_,_,h,_,_,_=>by simp at h
 | y::l,k,0,x,h,hn,hx,hp=>by
   simp only [List.getElem?_cons_zero,Option.some.injEq]at h
   simp_all [As,CW]
 | y::l,k,i+1,x,h,hn,hx,hp=>by
   have hl:(if k<n then T.denc E y else T.enc E y).length =T.sz E:=by
    grind [CW]
   rw [List.set_cons_succ,As,As,List.set_append_right _ _ (by rw [hl,Nat.add_mul,Nat.one_mul];omega),hl,show (i+1)*T.sz E+p - T.sz E=i*T.sz E+p by rw [Nat.add_mul,Nat.one_mul];omega]
   rw [JX (by simpa using h) (by push_cast at hn;omega) hx hp]
theorem ba (E:Nat) (x:T.den E):Aj (T.denc E x)=true:=by
 have: ∀ (ks:List Kd) (y:DK T.den ks),Aj (Ba T ks y)=true:=by
  intro ks
  induction ks with
  | nil=>intro _;rfl
  | cons k ks ih=>
    intro y
    simp only [Ba,Aj,Bool.and_eq_true]
    exact⟨by cases k<;>rfl,ih y.2⟩
 exact this _ _
def kT (P:Program) (I:World→Prop) (o:Oper) (A B:St):Prop:= ∀ (F:Fr) (a:Act) (w:World) (G:Au),F.I=I→R F A a w G→ ∃ v G',(∀ w',BY w w'→(execOp a.eval o).run P w'= .ok (.value v) w')∧R F B (a.put o.dst v) w G'
theorem kT.esc {P:Program} {I:World→Prop} {o:Oper} {A B:St} {K:St→Prop} (h:kT P I o A B) (hK:K B):Dk P I o A K:=fun F a w G Q hI hR=>by
 obtain⟨v,G',h1,h2⟩:=h F a w G hI hR
 exact Ap (h1 w (BY.refl w)) ⟨_,G',hK,h2⟩
theorem bb {w w':World} {b k:Nat} {v:Value} (h:BY w w') (hc:w.cell? ⟨b,k,none⟩=some v):w'.cell? ⟨b,k,none⟩=some v:=by
 rw [cell?_of_block' (h.block b (block_lt_of_cell hc))];exact hc
def dlx (P:Program) (o:Oper) (st:Ad T):M (Ad T):=match o.op with
 | .load t x=>match o.dst,st.arg [] x,Fd P t with
   | some d,some (.c (.rp id N i off)),some (false,1)=>match FZ st id with
     | some ⟨E,(nn,l,none)⟩=>mIf (Db id&&(Nat.beq N (T.sz E)&&(!(BX (d::st.pre))&& !(Db (d::st.pre))))) (.opt (Gk l i) fun x=> .opt (Fb (i<nn)) fun _=>match D3 (T.ks E) (T.un E x) off with
       | some ⟨F,y⟩=> .ret ((AO [(d::st.pre, .row F y)] ((st.killF (nj (d::st.pre) id)).setX id (.deep E nn l (some (i,off))))).put (some d) (.c (.c (.osl (d::st.pre)))))
       | none=> .no)
     | _=> .no
   | _,_,_=> .no
 | _=> .no
theorem dU {H:Am T} {P:Program} {I:World→Prop} {st:Ad T} (hw:Av H st) {o:Oper}:Yl (dlx P o st) (fun st'=>(∃ H',Nx H st H' st')∧st'.pre=st.pre∧kT P I o st.toSt st'.toSt):=by
 unfold dlx
 split
 ·rename_i t x hop
  split
  ·rename_i d id N i off hd hx ht
   split
   ·rename_i E nn l hdr
    refine Yl.mIf fun hg=>Yl.opt fun xx hxx=>Yl.opt fun u hu=>?_
    simp only [Bool.and_eq_true,Nat.beq_eq,Bool.not_eq_true']at hg
    obtain⟨g1,g2,g3,g4⟩:=hg
    subst g2
    split
    ·rename_i F y hy
     refine Yl.ret ?_
     have hin:=BP hu
     obtain⟨i0,i1,hxi⟩:=Fp hxx
     obtain⟨a1,a2,a3⟩:=Ev hw hx
     obtain⟨hmk,hlr,e,he1,he2,he3⟩:=Bl hdr
     obtain⟨hc,hoff⟩:=IB hy
     have hE:e.toE=⟨id,some (E,T.sz E,l.length),As T E nn 0 l,true⟩:=by unfold DE.toE;rw [he3,he2];rfl
     obtain⟨⟨H1,n1⟩,k1,k2,k3,k4,k5⟩:=Ad.killF_spec hw (nj (d::st.pre) id)
     have hp:nj (d::st.pre) id=pD (d::st.pre) id:=kS _ _
     rw [hp]at n1 k1 k2 k3 k4 k5 ⊢
     have hrid:d::st.pre ≠ id:=fun q=>by rw [q,g1]at g4;cases g4
     obtain⟨H2,n2⟩:=Ad.setX_nx n1.ok id (x:= .deep E nn l (some (i,off))) trivial
     obtain⟨H3,n3⟩:=FB (l:=[(d::st.pre,DX.row F y)]) (n1.trans n2) (fun p hp'=>by rcases List.mem_singleton.1 hp' with rfl;trivial) (by simp) (fun p hp' e' he' q=>by
      rcases List.mem_singleton.1 hp' with rfl
      have hids:e'.id∈((st.killF (pD (d::st.pre) id)).so.map DE.id):=by
       rw [←Pm id (st.killF (pD (d::st.pre) id)).nx (.deep E nn l (some (i,off)))]
       exact List.mem_map.2 ⟨e',he',rfl⟩
      grind [pD])
     obtain⟨s1,s2,s3,s4,s5,_⟩:=C3 [(d::st.pre,DX.row F y)] ((st.killF (pD (d::st.pre) id)).setX id (.deep E nn l (some (i,off))))
     obtain⟨H4,n4⟩:=Ad.put_spec n3 (some d) (v:= .c (.c (.osl (d::st.pre)))) (by simp only [DV.ok,DC.ok])
     refine⟨⟨H4,n4⟩,by rw [AB,s3];exact k4,fun Fr a w G hI hR=>?_⟩
     have hL:st.toSt.lookD id=some e.toE:=hR.lookD_of (List.mem_map.2 ⟨e,he1,rfl⟩) (by rw [hE]) g1
     have hk:e.toE.cs[i.toNat*T.sz E+off]? =some (.isl F (T.sz F) y.length (y.flatMap (T.enc F))):=by
      rw [hE]
      show (As T E nn 0 l)[_]? =_
      rw [F3 hxi hoff,if_pos (by omega)]
      exact hc
     have hxv:=hR.arg rfl a2
     rw [a3]at hxv
     simp only [DV.toV,DC.toC,Ab,Ac]at hxv
     obtain⟨b,hb1,hv⟩:=hxv
     obtain⟨G',q1,b2,v,q2,q3,q4,q5⟩:=hR.extract hL hk (r:=d::st.pre) g3 g4
     rw [hb1]at q2;injection q2 with q2;subst q2
     obtain⟨dd,ti,hu',hd',_⟩:=Br ht
     refine⟨v,G',fun w' hS=>?_,?_⟩
     ·simp [execOp,hop,hv,Cd hu' hd' (bb hS q3)]
     ·rw [hd]
      have hfin:=R.put (d:=some d) q1 (show Ab w G' (V.c (C.osl (d::st.pre))) v by simp only [Ab,Ac];exact⟨q4,q5⟩)
      refine hfin.less ?_
      rw [Ad.put_toSt]
      refine Bk.put (GD ?_ ?_ ?_ ?_ ?_) _ _
      ·have:(AO [(d::st.pre,DX.row F y)] ((st.killF (pD (d::st.pre) id)).setX id (.deep E nn l (some (i,off))))).toSt.tm =(st.killF (pD (d::st.pre) id)).toSt.tm :=by simp only [Ad.toSt,s1,s4];rfl
       rw [this];exact k1
      ·have:(AO [(d::st.pre,DX.row F y)] ((st.killF (pD (d::st.pre) id)).setX id (.deep E nn l (some (i,off))))).toSt.gh =(st.killF (pD (d::st.pre) id)).toSt.gh :=by simp only [Ad.toSt,s2];rfl
       rw [this];exact k2
      ·intro z hz
       rw [s5]at hz
       simp only [List.map_cons,List.map_nil,List.singleton_append,List.mem_cons]at hz
       simp only [St.killP,List.mem_cons,List.mem_map,List.mem_filter]
       rcases hz with rfl | hz
       ·exact .inl rfl
       ·right
        obtain⟨e3,h1,rfl⟩:=List.mem_map.1 hz
        rcases setL_mem' n1.ok.nd h1 with ⟨h1,h2⟩ | h1
        ·obtain⟨d3,h3,h4,h5⟩:=Sx hw (List.mem_map.2 ⟨e3,h1,rfl⟩)
         have hid3:d3.id ≠ id:=by
          grind [Ak.killP_id,DE.toE_id]
         refine⟨d3.killP (pD (d::st.pre) id),⟨d3,(by grind [pD]),rfl⟩,?_⟩
         grind [CG,Ak.killP_id]
        ·subst h1
         refine⟨e.toE.killP (pD (d::st.pre) id),⟨e.toE,⟨List.mem_map.2 ⟨e,he1,rfl⟩,by grind⟩,rfl⟩,?_⟩
         rw [CH (by rw [Ak.killP_id,hE]),Ak.killP_id,Ak.killP_pu,hE]
         rfl
      ·exact Dl n3.ok
      ·rw [show (AO [(d::st.pre,DX.row F y)] ((st.killF (pD (d::st.pre) id)).setX id (.deep E nn l (some (i,off))))).toSt.pre =st.pre from by show (AO _ _).pre =_;rw [s3];exact k4];rfl
    ·exact Yl.no
   ·exact Yl.no
  ·exact Yl.no
 ·exact Yl.no
end Go.PL
set_option linter.all false
namespace Go.PL
open Go Go.RowKit
variable {T:AN}
def Ad.killD (st:Ad T) (p:Ae→Bool):Ad T:=let s:=st.remap (DV.menP p) (fun _=> .u) (fun _=>false) id;{s with so:=s.so.filter fun e=> !(p e.id)&& !(e.x.menP p)}
theorem Zj: ∀ (l:List (DE T)) (n:Nat),JH (fun _=>false) id n l=l
 | [],_=>rfl
 | e::r,n=>by simp only [JH,Zj r]
theorem PS {p:Ae→Bool} (m n:Nat) (tm:Tm T): ∀ i,(At m (I9 (DV.menP p) (fun _=> .u) n tm)).getD i .undef = .undef ∨((At m (I9 (DV.menP p) (fun _=> .u) n tm)).getD i .undef =(At m tm).getD i .undef ∧((At m tm).getD i .undef).menP p=false):=fun i=>by
 unfold At
 simp only [List.getD_eq_getElem?_getD,List.getElem?_map]
 by_cases hi:i<m
 ·rw [List.getElem?_range hi]
  simp only [Option.map_some,Option.getD_some,HF (p:=DV.menP p) (f:=fun _=>DV.u) (by simp [DV.menP])]
  split
  ·grind [DV.toV]
  ·rename_i h;exact .inr ⟨rfl,DV.menP_le p _ h⟩
 grind
theorem QQ (a b:List V) (i:Nat):(a++b).getD i .undef =if i<a.length then a.getD i .undef else b.getD (i - a.length) .undef :=by
 grind
theorem Wn {p:Ae→Bool}: ∀ (l:List (Nat×Tm T)) (n:Nat),((JG (DV.menP p) (fun _=> .u) n l).flatMap fun f=>At f.1 f.2).length =(l.flatMap fun f=>At f.1 f.2).length ∧ ∀ i,((JG (DV.menP p) (fun _=> .u) n l).flatMap fun f=>At f.1 f.2).getD i .undef = .undef ∨
 (((JG (DV.menP p) (fun _=> .u) n l).flatMap fun f=>At f.1 f.2).getD i .undef =(l.flatMap fun f=>At f.1 f.2).getD i .undef ∧((l.flatMap fun f=>At f.1 f.2).getD i .undef).menP p=false)
 | [],_=>⟨rfl,fun i=> .inl rfl⟩
 | (m,tm)::r,n=>by
   obtain⟨h1,h2⟩:=Wn r (n+tm.length)
   have hl:(At m (I9 (DV.menP p) (fun _=> .u) n tm)).length =(At m tm).length :=by rw [AS,AS]
   simp only [JG,List.flatMap_cons]
   refine⟨by rw [List.length_append,List.length_append,h1,hl],fun i=>?_⟩
   grind [QQ,PS]
theorem HQ {H:Am T} {st:Ad T} (h:Av H st) (p:Ae→Bool):(∃ H',Nx H st H' (st.killD p))∧(st.killD p).pre =st.pre∧(∀ e∈(st.killD p).so,e∈st.so∧p e.id=false∧e.x.menP p=false):=by
 obtain⟨H',hN⟩:=Ad.remap_nx (p:=DV.menP p) (f:=fun _=> .u) (q:=fun _=>false) (g:=id) h (fun _=>by simp only [DV.ok]) (fun {x} hx=>hx)
 refine⟨⟨H',hN.ext,hN.le,CX hN.ok _⟩,rfl,fun e he=>?_⟩
 obtain⟨h1,h2⟩:=List.mem_filter.1 he
 have h1:e∈JH (fun _=>false) id (st.nx+st.tm.length+HX st.gh) st.so:=h1
 simp_all [Zj]
theorem No {H H2:Am T} {st:Ad T} (hw:Av H st) {p:Ae→Bool} {id:Ae} {ns:List Ae} {x:DX T} (hid: ∀ n∈ns,p n=true) (hok:Av H2 ((st.killD p).setX id x)) {new:Ak} (hnew:QO (id,x)=new):Sk p id ns new st.toSt ((st.killD p).setX id x).toSt :=by
 refine⟨?_,fun i=>?_,?_,fun i=>?_,fun z hz=>?_,Dl hok,rfl⟩
 ·show (At _ _).length =(At _ _).length
  rw [AS,AS];rfl
 ·exact PS st.m st.nx st.tm i
 ·exact(Wn st.gh _).1
 ·exact(Wn st.gh _).2 i
 ·obtain⟨e,he,rfl⟩:=List.mem_map.1 hz
  obtain⟨⟨H1,n1⟩,_,k3⟩:=HQ hw p
  rcases setL_mem' n1.ok.nd he with ⟨h1,h2⟩ | h1
  ·right
   obtain⟨q1,q2,q3⟩:=k3 e h1
   refine⟨List.mem_map.2 ⟨e,q1,rfl⟩,by rw [DE.toE_id];exact h2,fun hq=>?_,?_⟩
   ·grind [DE.toE_id]
   ·unfold DE.toE
    cases hx:e.x with
    | box cs=>
      grind [DX.menP,DP]
    | row E l=>grind
    | deep E n l h=>grind
  grind [Zf]
def Mn (rs:List Ae) (id i:Ae):Bool:=match rs with
 | []=>GN.ofDT id i
 | r::rs=>match AG i r with
   | true=>true
   | false=>Mn rs id i
theorem Ua: ∀ {rs:List Ae} {id r:Ae},r∈rs→ ∀ i,pD r id i=true→Mn rs id i=true
 | [],_,_,h,_,_=>by cases h
 | x::rs,id,r,h,i,hi=>by
   unfold Mn
   split
   ·rfl
   ·rename_i hb
    rcases List.mem_cons.1 h with rfl | h
    ·simp only [pD,Bool.or_eq_true,beq_iff_eq]at hi
     rcases hi with hi | hi
     ·grind [Az]
     ·have: ∀ rs:List Ae,Mn rs id i=true:=by
       intro rs
       induction rs<;>grind [Mn,GC]
      grind
    ·exact Ua h i hi
theorem NZ: ∀ {rs:List Ae} {id r:Ae},r∈rs→Mn rs id r=true
 | x::rs,id,r,h=>by
   unfold Mn
   split
   ·rfl
   ·rename_i hb
    rcases List.mem_cons.1 h with rfl | h
    ·rw [Az.2 rfl]at hb;cases hb
    ·exact NZ h
def kU (h:Option (Int×Nat)) (i:Int):Option Unit:=match h with
 | none=>some ()
 | some (j,_)=>Fb (i=j)
def dsa (P:Program) (o:Oper) (st:Ad T):M (Ad T):=match o.op with
 | .store t x y=>match o.dst,st.arg [] x,st.arg [] y,Fd P t with
   | none,some (.c (.rp id N i off)),some (.c (.c (.osl r))),some (false,1)=>match FZ st id,CJ st r with
     | some ⟨E,(nn,l,h)⟩,some ⟨F,y⟩=>mIf (Db id&&(Nat.beq N (T.sz E)&&(match h with | none=>true | some (_,o)=>Nat.beq o off))) (.opt (Gk l i) fun x=> .opt (Fb (i<nn)) fun _=> .opt (kU h i) fun _=>
      match D4 F y (T.ks E) (T.un E x) off with
      | some z=> .ret ((st.killD (Mn [r] id)).setX id (.deep E nn (l.set i.toNat (T.bd E z)) none))
      | none=> .no)
     | _,_=> .no
   | _,_,_,_=> .no
 | _=> .no
theorem kV {H:Am T} {P:Program} {I:World→Prop} {st:Ad T} (hw:Av H st) {o:Oper}:Yl (dsa P o st) (fun st'=>(∃ H',Nx H st H' st')∧st'.pre=st.pre∧ ∀ K:St→Prop,K st'.toSt→Dk P I o st.toSt K):=by
 unfold dsa
 split
 ·rename_i t x y hop
  split
  ·rename_i id N i off r hd hx hy ht
   split
   ·rename_i E nn l hh F yy hdr hrow
    refine Yl.mIf fun hg=>Yl.opt fun xx hxx=>Yl.opt fun u hu=>Yl.opt fun u2 hu2=>?_
    simp only [Bool.and_eq_true,Nat.beq_eq]at hg
    obtain⟨g1,g2,g3⟩:=hg
    subst g2
    split
    ·rename_i z hz
     have hin:=BP hu
     obtain⟨i0,i1,hxi⟩:=Fp hxx
     obtain⟨a1,a2,a3⟩:=Ev hw hx
     obtain⟨b1,b2,b3⟩:=Ev hw hy
     obtain⟨hmk,hlr,e,he1,he2,he3⟩:=Bl hdr
     obtain⟨r1,_,er,r2,r3,r4⟩:=Be hrow
     obtain⟨hz1,hoff⟩:=HP hz
     have hE:e.toE=⟨id,some (E,T.sz E,l.length),AP T E nn l hh,true⟩:=by grind [DE.toE]
     have hdenc:T.denc E (T.bd E z)=(T.denc E xx).set off (.isl F (T.sz F) yy.length (yy.flatMap (T.enc F))):=by rw [AN.denc,T.unmk,hz1];rfl
     have hset:=JX (n:=nn) (k:=0) (x':=T.bd E z) (c:= .isl F (T.sz F) yy.length (yy.flatMap (T.enc F))) (p:=off) hxi (by omega) hdenc hoff
     have hcells:(AP T E nn l hh).set (i.toNat*T.sz E+off) (.isl F (T.sz F) yy.length (yy.flatMap (T.enc F)))=As T E nn 0 (l.set i.toNat (T.bd E z)):=by
      rw [←hset]
      cases hh with
      | none=>rfl
      | some jo=>
        obtain⟨j,o2⟩:=jo
        have g3:Nat.beq o2 off=true:=g3
        have g3:=Nat.eq_of_beq_eq_true g3
        have hho:i=j:=BP hu2
        grind [AP,List.set_set]
     obtain⟨⟨H1,n1⟩,k2,k3⟩:=HQ hw (Mn [r] id)
     obtain⟨H2,n2⟩:=Ad.setX_nx n1.ok id (x:= .deep E nn (l.set i.toNat (T.bd E z)) none) trivial
     refine Yl.ret ⟨⟨H2,n1.trans n2⟩,k2,fun K hK Fr a w G Q hI hR=>?_⟩
     have hL:st.toSt.lookD id=some e.toE:=hR.lookD_of (List.mem_map.2 ⟨e,he1,rfl⟩) (by rw [hE]) g1
     have hxv:=hR.arg rfl a2
     rw [a3]at hxv
     simp only [DV.toV,DC.toC,Ab,Ac]at hxv
     obtain⟨b,hb1,hv⟩:=hxv
     have hyv:=hR.arg rfl b2
     rw [b3]at hyv
     simp only [DV.toV,DC.toC,Ab,Ac]at hyv
     have hcl:(a.eval y).cells.toList =[a.eval y]:=by
      have:=hyv.2
      cases hq:a.eval y<;>rw [hq]at this<;>first | rfl | cases this
     have hc:Ag w G [C.any] (a.eval y).cells.toList :=by simp_all [Ag,Ac]
     have hlen:e.toE.cs.length=l.length*T.sz E:=by grind [Dg]
     have hoff':off<T.sz E:=hoff
     have hk:i.toNat*T.sz E+off<e.toE.cs.length:=by
      rw [hlen]
      have:(i.toNat+1)*T.sz E≤l.length*T.sz E:=Nat.mul_le_mul_right _ (by omega)
      grind
     obtain⟨cur,T',c1,c2,c3⟩:=hR.deepStored hL hb1 (off:=i.toNat*T.sz E+off) hc (by simp;omega) rfl rfl
     have hs:=CR (P:=P) ht c1 (by grind) c2 (Ag.one hc)
     have hcell:(w.setRow b (cur.toList.take (i.toNat*T.sz E+off)++(a.eval y).cells.toList ++cur.toList.drop (i.toNat*T.sz E+off+(a.eval y).cells.toList.length)).toArray).cell? ⟨b,i.toNat*T.sz E+off,none⟩=some (a.eval y):=by
      have:=setRow_heap w b cur (cur.toList.take (i.toNat*T.sz E+off)++(a.eval y).cells.toList ++cur.toList.drop (i.toNat*T.sz E+off+(a.eval y).cells.toList.length)).toArray T' (0,0) c1
      simp only [World.cell?,this]
      have hkl:(cur.toList.take (i.toNat*T.sz E+off)).length =i.toNat*T.sz E+off:=by grind
      simp_all
     generalize w.setRow b _=w1 at hs c3 hcell
     have hrun:(execOp a.eval o).run P w= .ok .skip w1:=by simp_all [execOp]
     have hr1:er.toE=⟨r,some (F,T.sz F,yy.length),yy.flatMap (T.enc F),true⟩:=by rw [DE.toE_row r4,r3]
     have hrd:Db r=false:=DR r1
     have hrid:r ≠ id:=(by grind)
     have hmem: ∀ d∈st.toSt.so,d.id ≠ id→d∈(st.toSt.setD id e.toE.row (e.toE.cs.take (i.toNat*T.sz E+off)++[C.any]++e.toE.cs.drop (i.toNat*T.sz E+off+[C.any].length))).so :=fun d hd' hne=>List.mem_map.2 ⟨d,hd',CG hne⟩
     have hL2:(st.toSt.setD id e.toE.row (e.toE.cs.take (i.toNat*T.sz E+off)++[C.any]++e.toE.cs.drop (i.toNat*T.sz E+off+[C.any].length))).lookD id=some ⟨id,e.toE.row,e.toE.cs.take (i.toNat*T.sz E+off)++[C.any]++e.toE.cs.drop (i.toNat*T.sz E+off+[C.any].length),true⟩:=by
      refine c3.lookD_of (List.mem_map.2 ⟨e.toE,List.mem_map.2 ⟨e,he1,rfl⟩,?_⟩) rfl g1
      grind [CH]
     have hLr:(st.toSt.setD id e.toE.row (e.toE.cs.take (i.toNat*T.sz E+off)++[C.any]++e.toE.cs.drop (i.toNat*T.sz E+off+[C.any].length))).look r=some er.toE:=
      c3.look_of (hmem _ (List.mem_map.2 ⟨er,r2,rfl⟩) (by grind)) (by grind) hrd (by grind)
     have hsl:(e.toE.cs.take (i.toNat*T.sz E+off)++[C.any]++e.toE.cs.drop (i.toNat*T.sz E+off+[C.any].length)).length =e.toE.cs.length:=by simp;omega
     obtain⟨G',q⟩:=c3.absorbL (p:=Mn [r] id) [⟨i.toNat*T.sz E+off,r,F,T.sz F,yy.length,yy.flatMap (T.enc F)⟩] hL2 hb1 (fun ar har=>by
      rcases List.mem_singleton.1 har with rfl
      exact⟨by rw [hLr,hr1];rfl,by grind,Ua (by simp),_,hcell,hyv.1⟩) (by simp) ((st.killD (Mn [r] id)).setX id (.deep E nn (l.set i.toNat (T.bd E z)) none)).toSt (by
      have hnew:QO (id,(DX.deep E nn (l.set i.toNat (T.bd E z)) none:DX T))=⟨id,e.toE.row,Fk (e.toE.cs.take (i.toNat*T.sz E+off)++[C.any]++e.toE.cs.drop (i.toNat*T.sz E+off+[C.any].length)) [⟨i.toNat*T.sz E+off,r,F,T.sz F,yy.length,yy.flatMap (T.enc F)⟩],true⟩:=by
       show (⟨id,some (E,T.sz E,(l.set i.toNat (T.bd E z)).length),As T E nn 0 (l.set i.toNat (T.bd E z)),true⟩:Ak)=_
       have htl:(e.toE.cs.take (i.toNat*T.sz E+off)).length =i.toNat*T.sz E+off:=by grind
       simp only [Fk,List.foldl_cons,List.foldl_nil,hE,List.length_set]
       congr 1
       rw [←hcells]
       apply List.ext_getElem?
       intro j
       have htl2:((AP T E nn l hh).take (i.toNat*T.sz E+off)).length =i.toNat*T.sz E+off:=by grind
       have hkk:i.toNat*T.sz E+off<(AP T E nn l hh).length :=by grind
       simp only [List.getElem?_set]
       by_cases hj:i.toNat*T.sz E+off=j
       ·grind
       ·rw [if_neg hj,if_neg hj,List.append_assoc]
        by_cases hjk:j<i.toNat*T.sz E+off
        ·grind
        ·rw [List.getElem?_append_right (by omega),htl2,List.getElem?_append_right (by simp;omega),List.getElem?_drop]
         grind
      have hB:=No (ns:=[r]) hw (p:=Mn [r] id) (fun n hn=>by rcases List.mem_singleton.1 hn with rfl;exact NZ (by simp)) n2.ok hnew
      exact⟨hB.len,hB.tm,hB.glen,hB.gh,fun x hx=>(hB.so x hx).imp (fun q=>q) (by grind),hB.nd,hB.pre⟩)
     exact Dr hrun (by rw [hd];exact⟨_,G',hK,q⟩)
    ·exact Yl.no
   ·exact Yl.no
  ·exact Yl.no
 ·exact Yl.no
end Go.PL
set_option linter.all false
namespace Go.PL
open Go Go.RowKit
variable {T:AN}
theorem Sy {E:Nat} {n n':Int}: ∀ {l:List (T.den E)} {k:Int},n≤k→n'≤k→As T E n k l=As T E n' k l
 | [],_,_,_=>rfl
 | x::l,k,h,h'=>by
   rw [As,As,if_neg (by omega),if_neg (by omega),Sy (n':=n') (l:=l) (k:=k+1) (by omega) (by omega)]
theorem PT {E:Nat} {x':T.den E} {n:Int}: ∀ {l:List (T.den E)} {k:Int} {i:Nat},i<l.length→k+i=n→(As T E n k l).take (i*T.sz E)++(T.denc E x'++(As T E n k l).drop (i*T.sz E+T.sz E))=As T E (n+1) k (l.set i x')
 | [],_,_,h,_=>by simp at h
 | y::l,k,0,h,hk=>by
   have hk:k=n:=by grind
   rw [List.set_cons_zero,As,As,if_neg (by omega),if_pos (by omega),Nat.zero_mul,Nat.zero_add,List.take_zero,List.nil_append,List.drop_append_of_le_length (by rw [AA];exact Nat.le_refl _),List.drop_eq_nil_of_le (by rw [AA];exact Nat.le_refl _),List.nil_append,Sy (n':=n+1) (by omega) (by omega)]
 | y::l,k,i+1,h,hk=>by
   have hk':k<n:=by grind
   have e:(i+1)*T.sz E=T.sz E+i*T.sz E:=by rw [Nat.add_mul,Nat.one_mul,Nat.add_comm]
   rw [List.set_cons_succ,As,As,if_pos hk',if_pos (by omega),e, ←PT (l:=l) (k:=k+1) (by simpa using h) (by push_cast at hk;omega)]
   rw [List.take_append,List.drop_append,CW,List.take_of_length_le (by rw [CW];omega),List.drop_eq_nil_of_le (by rw [CW];omega),List.nil_append]
   grind
def HZ:C→C
 | .osl _=> .any
 | c=>c
def Ld (st:Ad T):(ks:List Kd)→List (DC T)→Option (DK T.den ks×List Ae)
 | [],[]=>some ((),[])
 | .lst F::ks,c::cs=>match Ir c with
   | some r=>match CJ st r with
     | some ⟨F',l⟩=>match Wm F F' l,Ld st ks cs with
       | some l',some (y,rs)=>some ((l',y),r::rs)
       | _,_=>none
     | none=>none
   | none=>none
 | .int k::ks,c::cs=>match Fi false (.int k) c,Ld st ks cs with
   | some x,some (y,rs)=>some ((x,y),rs)
   | _,_=>none
 | .bool ::ks,c::cs=>match Fi false .bool c,Ld st ks cs with
   | some x,some (y,rs)=>some ((x,y),rs)
   | _,_=>none
 | .str ::ks,c::cs=>match Fi false .str c,Ld st ks cs with
   | some x,some (y,rs)=>some ((x,y),rs)
   | _,_=>none
 | _,_=>none
structure hZ (st:Ad T) (ks:List Kd) (cs:List (DC T)) (y:DK T.den ks) (rs:List Ae) (b:Nat) (ars:List AR):Prop where
 ids:ars.map (·.r)=rs
 len:cs.length=ks.length
 at_: ∀ x∈ars,st.toSt.look x.r=some x.ent∧b≤x.k∧x.k<b+ks.length∧(Al cs)[x.k - b]? =some (.osl x.r)
 sets: ∀ pre post:List C,pre.length=b→Fk (pre++((Al cs).map HZ++post)) ars=pre++(Ba T ks y++post)
 pure:Aj ((Al cs).map HZ)=true
 noi:((Al cs).map HZ).all W9=true
theorem hZ.sc {st:Ad T} {ks:List Kd} {cs:List (DC T)} {y:DK T.den ks} {rs:List Ae} {b:Nat} {ars:List AR} (h:hZ st ks cs y rs (b+1) ars) (k:Kd) (x:KZ T.den k) (c:DC T) (hk:IU k=true) (hc:c.toC=AQ T.enc k x):hZ st (k::ks) (c::cs) ((x,y):KZ T.den k×DK T.den ks) rs b ars:=by
 have hu:HZ c.toC=OU T k x:=by rw [hc];cases k<;>first | rfl | cases hk
 have hp:(OU T k x).pure =true∧W9 (OU T k x)=true:=by cases k<;>first | exact⟨rfl,rfl⟩ | cases hk
 refine⟨h.ids,by simp [h.len],fun z hz=>?_,fun pre post hl=>?_,?_,?_⟩
 ·obtain⟨a1,a2,a3,a4⟩:=h.at_ z hz
  grind [Al]
 ·have:=h.sets (pre++[OU T k x]) post (by simp [hl])
  grind [Al,Ba]
 ·simp only [Al,List.map_cons,Aj,Bool.and_eq_true];exact⟨by grind,h.pure⟩
 ·simp only [Al,List.map_cons,List.all_cons,Bool.and_eq_true];exact⟨by grind,h.noi⟩
theorem FC {st:Ad T}: ∀ {ks:List Kd} {cs:List (DC T)} {y:DK T.den ks} {rs:List Ae},Ld st ks cs=some (y,rs)→ ∀ b:Nat, ∃ ars,hZ st ks cs y rs b ars
 | [],[],y,rs,h,b=>by
   simp only [Ld,Option.some.injEq]at h
   injection h with h1 h2
   subst h1 h2
   exact⟨[],rfl,rfl,(by grind),(fun pre post _=>rfl),rfl,rfl⟩
 | [],_::_,_,_,h,_=>by simp [Ld]at h
 | k::_,[],_,_,h,_=>by grind [Ld]
 | .int k::ks,c::cs,y,rs,h,b=>by
   simp only [Ld]at h
   split at h
   ·rename_i x y' rs' h1 h2
    injection h with h;injection h with e1 e2;subst e1 e2
    obtain⟨ars,ha⟩:=FC h2 (b+1)
    exact⟨ars,ha.sc (.int k) x c rfl ((BS h1).2 rfl)⟩
   ·cases h
 | .bool ::ks,c::cs,y,rs,h,b=>by
   simp only [Ld]at h
   split at h
   ·rename_i x y' rs' h1 h2
    injection h with h;injection h with e1 e2;subst e1 e2
    obtain⟨ars,ha⟩:=FC h2 (b+1)
    exact⟨ars,ha.sc .bool x c rfl ((BS h1).2 rfl)⟩
   ·cases h
 | .str ::ks,c::cs,y,rs,h,b=>by
   simp only [Ld]at h
   split at h
   ·rename_i x y' rs' h1 h2
    injection h with h;injection h with e1 e2;subst e1 e2
    obtain⟨ars,ha⟩:=FC h2 (b+1)
    exact⟨ars,ha.sc .str x c rfl ((BS h1).2 rfl)⟩
   ·cases h
 | .lst F::ks,c::cs,y,rs,h,b=>by
   simp only [Ld]at h
   split at h
   ·rename_i r ho
    split at h
    ·rename_i F' l hr
     split at h
     ·rename_i l' y' rs' h1 h2
      injection h with h;injection h with e1 e2;subst e1 e2
      obtain⟨e,rfl⟩:=JW h1
      subst e
      obtain⟨ars,ha⟩:=FC h2 (b+1)
      obtain⟨q1,_,d,q2,q3,q4⟩:=Be hr
      have hc:=Dt ho
      refine⟨⟨b,r,F',T.sz F',l.length,l.flatMap (T.enc F')⟩::ars,by simp [ha.ids],by simp [ha.len],fun z hz=>?_,fun pre post hl=>?_,?_,?_⟩
      ·rcases List.mem_cons.1 hz with rfl | hz
       ·refine⟨q1,Nat.le_refl _,by simp,?_⟩
        rw [hc,Al,Nat.sub_self];rfl
       ·obtain⟨a1,a2,a3,a4⟩:=ha.at_ z hz
        grind [Al]
      ·have:=ha.sets (pre++[.isl F' (T.sz F') l.length (l.flatMap (T.enc F'))]) post (by simp [hl])
       have e1:Fk (pre++((Al (c::cs)).map HZ++post)) (⟨b,r,F',T.sz F',l.length,l.flatMap (T.enc F')⟩::ars)=Fk ((pre++[.isl F' (T.sz F') l.length (l.flatMap (T.enc F'))])++((Al cs).map HZ++post)) ars:=by
        unfold Fk
        simp_all [Al]
       rw [e1,this]
       simp only [Ba,List.append_assoc,List.singleton_append,List.cons_append]
       rfl
      ·simp only [Al,List.map_cons,Aj,Bool.and_eq_true];rw [hc];exact⟨rfl,ha.pure⟩
      ·simp only [Al,List.map_cons,List.all_cons,Bool.and_eq_true];rw [hc];exact⟨rfl,ha.noi⟩
     ·cases h
    ·cases h
   ·cases h
theorem PU {w:World} {G:Au}: ∀ {cs:List C} {vs:List Value},Ag w G cs vs→Ag w G (cs.map HZ) vs
 | [],[],_=>by simp [Ag]
 | [],_::_,h=>by grind
 | _::_,[],h=>by simp [Ag]at h
 | c::cs,v::vs,h=>by
   simp only [Ag,List.map_cons]at h ⊢
   refine⟨?_,PU h.2⟩
   cases c<;>first | exact h.1 | (simp only [HZ,Ac];exact h.1.one)
theorem PV {w:World} {G:Au}: ∀ {cs:List C} {vs:List Value} {k:Nat} {c:C},Ag w G cs vs→cs[k]? =some c→ ∃ v,vs[k]? =some v∧Ac w G c v
 | [],_,_,_,_,h=>by simp at h
 | _::_,[],_,_,h,_=>by simp [Ag]at h
 | d::cs,v::vs,0,c,h,hc=>by
   simp only [List.getElem?_cons_zero,Option.some.injEq]at hc;subst hc
   simp only [Ag]at h;grind
 | d::cs,v::vs,k+1,c,h,hc=>by
   simp only [Ag]at h
   obtain⟨u,h1,h2⟩:=PV (k:=k) h.2 (by simpa using hc)
   exact⟨u,by simpa using h1,h2⟩
def dse (P:Program) (o:Oper) (st:Ad T):M (Ad T):=match o.op with
 | .store t x y=>match o.dst,st.arg [] x,st.arg [] y,Fd P t with
   | none,some (.c (.rp id N i 0)),some (.agg cs),some (_,n)=>match FZ st id with
     | some ⟨E,(nn,l,none)⟩=>match Ld st (T.ks E) cs with
       | some (z,rs)=>mIf (Db id&&(Nat.beq N (T.sz E)&&(Nat.beq n (T.sz E)&&JB rs))) (.opt (Gk l i) fun _=> .opt (Fb (i=nn)) fun _=>
        .ret ((st.killD (Mn rs id)).setX id (.deep E (nn+1) (l.set i.toNat (T.bd E z)) none)))
       | none=> .no
     | _=> .no
   | _,_,_,_=> .no
 | _=> .no
theorem kW {H:Am T} {P:Program} {I:World→Prop} {st:Ad T} (hw:Av H st) {o:Oper}:Yl (dse P o st) (fun st'=>(∃ H',Nx H st H' st')∧st'.pre=st.pre∧ ∀ K:St→Prop,K st'.toSt→Dk P I o st.toSt K):=by
 unfold dse
 split
 ·rename_i t x y hop
  split
  ·rename_i id N i cs ag n hd hx hy ht
   split
   ·rename_i E nn l hdr
    split
    ·rename_i z rs hea
     refine Yl.mIf fun hg=>Yl.opt fun xx hxx=>Yl.opt fun u hu=>?_
     simp only [Bool.and_eq_true,Nat.beq_eq]at hg
     obtain⟨g1,g2,g3,g4⟩:=hg
     subst g2 g3
     have hin:i=nn:=BP hu
     obtain⟨i0,i1,hxi⟩:=Fp hxx
     obtain⟨a1,a2,a3⟩:=Ev hw hx
     obtain⟨b1,b2,b3⟩:=Ev hw hy
     obtain⟨hmk,hlr,e,he1,he2,he3⟩:=Bl hdr
     have hE:e.toE=⟨id,some (E,T.sz E,l.length),As T E nn 0 l,true⟩:=by unfold DE.toE;rw [he3,he2];rfl
     obtain⟨ars,ha⟩:=FC hea (i.toNat*T.sz E)
     have hcl:cs.length=T.sz E:=ha.len
     have hput:=PT (x':=T.bd E z) (n:=nn) (l:=l) (k:=0) (i:=i.toNat) (by omega) (by omega)
     obtain⟨⟨H1,n1⟩,k2,k3⟩:=HQ hw (Mn rs id)
     obtain⟨H2,n2⟩:=Ad.setX_nx n1.ok id (x:= .deep E (nn+1) (l.set i.toNat (T.bd E z)) none) trivial
     refine Yl.ret ⟨⟨H2,n1.trans n2⟩,k2,fun K hK Fr a w G Q hI hR=>?_⟩
     have hL:st.toSt.lookD id=some e.toE:=hR.lookD_of (List.mem_map.2 ⟨e,he1,rfl⟩) (by rw [hE]) g1
     have hxv:=hR.arg rfl a2
     rw [a3]at hxv
     simp only [DV.toV,DC.toC,Ab,Ac,Nat.add_zero]at hxv
     obtain⟨b,hb1,hv⟩:=hxv
     have hyv:=hR.arg rfl b2
     rw [b3]at hyv
     simp only [DV.toV,Ab]at hyv
     obtain⟨arr,hyv,hcs⟩:=hyv
     have hvl:(a.eval y).cells.toList =arr.toList:=by rw [hyv];rfl
     have hlen:e.toE.cs.length=l.length*T.sz E:=by grind [F2]
     have hle:i.toNat*T.sz E+T.sz E≤e.toE.cs.length:=by
      rw [hlen]
      have:(i.toNat+1)*T.sz E≤l.length*T.sz E:=Nat.mul_le_mul_right _ (by omega)
      grind
     have hxl:((Al cs).map HZ).length =T.sz E:=by simp [hcl,Ax]
     have hal:arr.toList.length=T.sz E:=by rw [←hcs.length,Ax,hcl]
     have hc:Ag w G ((Al cs).map HZ) (a.eval y).cells.toList :=by grind [PU]
     obtain⟨cur,T',c1,c2,c3⟩:=hR.deepStored hL hb1 (off:=i.toNat*T.sz E) hc (by omega) ha.pure ha.noi
     have hs:=CR (P:=P) ht c1 (by grind) c2 (Ag.one hc)
     rw [hvl]at hs c2 c3
     have hcell: ∀ j v,arr.toList[j]? =some v→(w.setRow b (cur.toList.take (i.toNat*T.sz E)++arr.toList++cur.toList.drop (i.toNat*T.sz E+arr.toList.length)).toArray).cell? ⟨b,i.toNat*T.sz E+j,none⟩=some v:=by
      intro j v hj
      have:=setRow_heap w b cur (cur.toList.take (i.toNat*T.sz E)++arr.toList++cur.toList.drop (i.toNat*T.sz E+arr.toList.length)).toArray T' (0,0) c1
      simp only [World.cell?,this]
      grind
     generalize w.setRow b _=w1 at hs c3 hcell
     have hrun:(execOp a.eval o).run P w= .ok .skip w1:=by simp_all [execOp]
     have hmem: ∀ d∈st.toSt.so,d.id ≠ id→d∈(st.toSt.setD id e.toE.row (e.toE.cs.take (i.toNat*T.sz E)++(Al cs).map HZ++e.toE.cs.drop (i.toNat*T.sz E+((Al cs).map HZ).length))).so :=fun d hd' hne=>List.mem_map.2 ⟨d,hd',CG hne⟩
     have hL2:(st.toSt.setD id e.toE.row (e.toE.cs.take (i.toNat*T.sz E)++(Al cs).map HZ++e.toE.cs.drop (i.toNat*T.sz E+((Al cs).map HZ).length))).lookD id=some ⟨id,e.toE.row,e.toE.cs.take (i.toNat*T.sz E)++(Al cs).map HZ++e.toE.cs.drop (i.toNat*T.sz E+((Al cs).map HZ).length),true⟩:=by
      refine c3.lookD_of (List.mem_map.2 ⟨e.toE,List.mem_map.2 ⟨e,he1,rfl⟩,?_⟩) rfl g1
      grind [CH]
     have htl:(e.toE.cs.take (i.toNat*T.sz E)).length =i.toNat*T.sz E:=by grind
     have hsl:(e.toE.cs.take (i.toNat*T.sz E)++(Al cs).map HZ++e.toE.cs.drop (i.toNat*T.sz E+((Al cs).map HZ).length)).length =e.toE.cs.length:=by
      grind
     obtain⟨G',q⟩:=c3.absorbL (p:=Mn rs id) ars hL2 hb1 (fun ar har=>by
      obtain⟨p1,p2,p3,p4⟩:=ha.at_ ar har
      obtain⟨hmr,hidr⟩:=AK p1
      have hnd:=DR p1
      have hrid:ar.r ≠ id:=(by grind)
      obtain⟨v,v1,v2⟩:=PV hcs p4
      simp only [Ac]at v2
      refine⟨c3.look_of (by grind) hidr hnd rfl,by grind,Ua (by rw [←ha.ids];grind),v,?_,v2.1⟩
      grind) (by rw [ha.ids];exact EP g4) ((st.killD (Mn rs id)).setX id (.deep E (nn+1) (l.set i.toNat (T.bd E z)) none)).toSt (by
      have hnew:QO (id,(DX.deep E (nn+1) (l.set i.toNat (T.bd E z)) none:DX T))=⟨id,e.toE.row,Fk (e.toE.cs.take (i.toNat*T.sz E)++(Al cs).map HZ++e.toE.cs.drop (i.toNat*T.sz E+((Al cs).map HZ).length)) ars,true⟩:=by
       show (⟨id,some (E,T.sz E,(l.set i.toNat (T.bd E z)).length),As T E (nn+1) 0 (l.set i.toNat (T.bd E z)),true⟩:Ak)=_
       rw [List.append_assoc,ha.sets _ _ htl,hxl, ←hput]
       simp only [hE,List.length_set]
       congr 1
       have:T.denc E (T.bd E z)=Ba T (T.ks E) z:=by rw [AN.denc,T.unmk]
       rw [this]
      have hB:=No (ns:=ars.map (·.r)) hw (p:=Mn rs id) (fun n hn=>by rw [ha.ids]at hn;exact NZ hn) n2.ok hnew
      exact⟨hB.len,hB.tm,hB.glen,hB.gh,fun x hx=>(hB.so x hx).imp (fun q=>q) (by grind),hB.nd,hB.pre⟩)
     exact Dr hrun (by rw [hd];exact⟨_,G',hK,q⟩)
    ·exact Yl.no
   ·exact Yl.no
  ·exact Yl.no
 ·exact Yl.no
end Go.PL
set_option linter.all false
namespace Go.PL
open Go Go.RowKit
variable {T:AN}
def Le (st:Ad T):Option Operand→Option (Option Int)
 | none=>some none
 | some x=>match st.arg [] x with
   | some (.c (.k (.int _) i))=>some (some i)
   | _=>none
theorem EA {H:Am T} {st:Ad T} (hw:Av H st) {x:Option Operand} {i:Option Int} (h:Le st x=some i) {F:Fr} {a:Act} {w:World} {G:Au} (hR:R F st.toSt a w G): ∃ k:IntKind,x.map a.eval=i.map (Value.int k):=by
 cases x with
 | none=>simp only [Le,Option.some.injEq]at h;subst h;simp_all
 | some x=>
   simp only [Le]at h
   split at h
   ·rename_i k j hx
    injection h with h;subst h
    obtain⟨a1,a2,a3⟩:=Ev hw hx
    have hxv:=hR.arg rfl a2
    rw [a3]at hxv
    simp only [DV.toV,DC.toC,AQ,Ab,Ac]at hxv
    grind
   ·cases h
theorem Zk {P:Program} (len cap:Nat) (k1 k2 k3:IntKind) (lo hi mx:Option Int) (hm:mx.isSome=true→hi.isSome=true) (h1:0≤lo.getD 0) (h2:lo.getD 0≤hi.getD len) (h3:hi.getD len≤mx.getD cap) (h4:mx.getD cap≤cap) (w:World):
 (Instr.sliceBounds true len cap (lo.map (Value.int k1)) (hi.map (Value.int k2)) (mx.map (Value.int k3))).run P w= .ok ((lo.getD 0).toNat,(hi.getD len).toNat,(mx.getD cap).toNat) w:=by
 have e1: ∀ code,mx.isSome=true→(Instr.sliceBound (.int k3 (mx.getD cap)) cap code).run P w= .ok (mx.getD cap).toNat w:=(by grind [run_sliceBound'])
 have e2: ∀ code,(Instr.sliceBound (.int k2 (hi.getD len)) (mx.getD cap).toNat code).run P w= .ok (hi.getD len).toNat w:=(by grind [run_sliceBound'])
 have e3: ∀ code,(Instr.sliceBound (.int k1 (lo.getD 0)) (hi.getD len).toNat code).run P w= .ok (lo.getD 0).toNat w:=(by grind [run_sliceBound'])
 cases lo<;>cases hi<;>cases mx<;>simp only [Option.getD_some,Option.getD_none,Option.isSome_some,Option.isSome_none,Bool.false_eq_true,forall_const,imp_self,Int.toNat_natCast]at hm e1 e2 e3 ⊢ <;>simp [Instr.sliceBounds,e1,e2,e3]
 all_goals first | rfl | (exact absurd hm (by simp))
def ia (P:Program) (o:Oper) (md:Bool) (st:Ad T):M (Ad T):=match o.op with
 | .slice t x lo hi mx=>match o.dst,st.arg [] x,BZ P t with
   | some d,some (.c (.c (.osl id))),some (_,n)=>match CJ st id,Le st lo,Le st hi,Le st mx with
     | some ⟨E,l⟩,some lo',some hi',some mx'=>mIf (Nat.beq n (T.sz E)&&(mx'.isNone||hi'.isSome)) (match md with
       | true=>mIf mx'.isNone (.opt (Fb (0≤lo'.getD 0∧lo'.getD 0≤hi'.getD (l.length:Nat)∧hi'.getD (l.length:Nat)≤(l.length:Nat)∧0<l.length)) fun _=> .ret (st.put (some d) (.c (.bs id E (lo'.getD 0) (hi'.getD (l.length:Nat) - lo'.getD 0)))))
       | false=> .opt (Fb (0≤lo'.getD 0∧lo'.getD 0≤hi'.getD (l.length:Nat)∧hi'.getD (l.length:Nat)≤mx'.getD (l.length:Nat)∧mx'.getD (l.length:Nat)≤(l.length:Nat))) fun _=> .ret (st.put (some d) (.c (.c .any))))
     | _,_,_,_=> .no
   | some d,some (.c (.bs id E0 o0 n0)),some (_,n)=>match CJ st id,Le st lo,Le st hi,Le st mx with
     | some ⟨E,l⟩,some lo',some hi',some none=>mIf (Nat.beq n (T.sz E)&&Nat.beq E0 E) (.opt (Fb (o0=0∧0≤lo'.getD 0∧lo'.getD 0≤hi'.getD (n0.toNat:Nat)∧hi'.getD (n0.toNat:Nat)≤(l.length:Nat)∧0<l.length)) fun _=> .ret (st.put (some d) (.c (.bs id E (lo'.getD 0) (hi'.getD (n0.toNat:Nat) - lo'.getD 0)))))
     | _,_,_,_=> .no
   | _,_,_=> .no
 | _=> .no
theorem R.rowFacts {F:Fr} {st:Ad T} {a:Act} {w:World} {G:Au} (hR:R F st.toSt a w G) {id:Ae} {E:Nat} {l:List (T.den E)} (h:CJ st id=some ⟨E,l⟩): ∃ v,G.own id=some v∧((∃ p,v= .slice p 0 0∧l.length=0)∨
 ∃ b cap cur,v= .slice (some ⟨b,0,none⟩) l.length cap∧G.blk id=some b∧w.heap[b]? =some (.cells cur E (0,0))∧l.length≤cap∧cap≤maxLen∧cur.size=cap*T.sz E∧Ai w G (l.flatMap (T.enc E)) b 0):=by
 obtain⟨h1,_⟩:=Be h
 obtain⟨hm,_⟩:=AK h1
 have hE:=hR.store _ hm
 unfold AJ at hE
 obtain⟨_,v,e1,e2⟩:=hE
 refine⟨v,e1,?_⟩
 rcases e2 with ⟨p,q1,q2,_⟩ | ⟨b,cap,cur,q1,q2,q3,q4,q5,q6,q7⟩
 ·grind
 ·exact .inr ⟨b,cap,cur,q1,q2,q3,q4,q5,q6,q7⟩
theorem Zl {H:Am T} {P:Program} {I:World→Prop} {st:Ad T} (hw:Av H st) {o:Oper} {md:Bool}:Yl (ia P o md st) (fun st'=>(∃ H',Nx H st H' st')∧st'.pre=st.pre∧kT P I o st.toSt st'.toSt):=by
 unfold ia
 split
 ·rename_i t x lo hi mx hop
  split
  ·rename_i d id e n hd hx ht
   split
   ·rename_i E l lo' hi' mx' hr q1 q2 q3
    refine Yl.mIf fun hg=>?_
    simp only [Bool.and_eq_true,Nat.beq_eq,Bool.or_eq_true]at hg
    obtain⟨g1,g2⟩:=hg
    obtain⟨a1,a2,a3⟩:=Ev hw hx
    obtain⟨hu,inf,hi1,hsz⟩:=BL ht
    have hm:mx'.isSome=true→hi'.isSome=true:=fun q=>by
     rcases g2 with g2 | g2
     all_goals simp_all
    have run: ∀ {F:Fr} {a:Act} {w:World} {G:Au},R F st.toSt a w G→ ∀ len cap (ad:Option Addr),a.eval x= .slice ad len cap→0≤lo'.getD 0→lo'.getD 0≤hi'.getD len→hi'.getD len≤mx'.getD cap→mx'.getD cap≤cap→ ∀ w',(execOp a.eval o).run P w'= .ok (.value (.slice (if(mx'.getD cap).toNat =(lo'.getD 0).toNat then ad else ad.map (·.add ((lo'.getD 0).toNat *n))) ((hi'.getD len).toNat - (lo'.getD 0).toNat) ((mx'.getD cap).toNat - (lo'.getD 0).toNat))) w':=by
     intro F a w G hR len cap ad hv b1 b2 b3 b4 w'
     obtain⟨k1,e1⟩:=EA hw q1 hR
     obtain⟨k2,e2⟩:=EA hw q2 hR
     obtain⟨k3,e3⟩:=EA hw q3 hR
     have hs:=Zk (P:=P) len cap k1 k2 k3 lo' hi' mx' hm b1 b2 b3 b4 w'
     simp [execOp,hop,e1,e2,e3,hv,Instr.sliceAt,Instr.slice,Sem.run_bind,run_underlying hu,hs,sizeOf,typeInfo,program,Sem.run,hi1,hsz]
    split
    ·refine Yl.mIf fun hmx=>Yl.opt fun u hn=>Yl.ret ?_
     have hn:=BP hn
     have hmx:mx'=none:=by simp_all
     subst hmx
     obtain⟨H1,n1⟩:=Ad.put_nx hw (some d) (v:= .c (.bs id E (lo'.getD 0) (hi'.getD (l.length:Nat) - lo'.getD 0))) (by grind [DV.ok,DC.ok])
     refine⟨⟨H1,n1⟩,AB _ _ _,fun Fr a w G hI hR=>?_⟩
     have hxv:=hR.arg rfl a2
     rw [a3]at hxv
     simp only [DV.toV,DC.toC,Ab,Ac]at hxv
     obtain⟨v,v1,v2⟩:=hR.rowFacts hr
     rw [hxv.1]at v1
     injection v1 with v1
     rcases v2 with ⟨p,_,v2⟩ | ⟨b,cap,cur,rfl,v3,v4,v5,v6,v7,v8⟩
     ·omega
     ·have hs:=run hR l.length cap _ v1 hn.1 hn.2.1 (by simp only [Option.getD_none];omega) (by simp)
      refine⟨_,G,fun w' _=>hs w',?_⟩
      rw [hd,Ad.put_toSt]
      refine hR.put ?_
      simp only [DV.toV,DC.toC,Ab,Ac]
      refine⟨b,l.length,cap,(if cap=(lo'.getD 0).toNat then 0 else(lo'.getD 0).toNat *n),cap - (lo'.getD 0).toNat,by grind,?_,?_,by omega,fun hlt=>?_⟩
      ·simp only [Option.getD_none,Int.toNat_natCast]
       grind [Addr.add_mid]
      all_goals grind
    ·refine Yl.opt fun u hn=>Yl.ret ?_
     have hn:=BP hn
     obtain⟨H1,n1⟩:=Ad.put_nx hw (some d) (v:= .c (.c .any)) (by simp only [DV.ok,DC.ok])
     refine⟨⟨H1,n1⟩,AB _ _ _,fun Fr a w G hI hR=>?_⟩
     have hxv:=hR.arg rfl a2
     rw [a3]at hxv
     simp only [DV.toV,DC.toC,Ab,Ac]at hxv
     obtain⟨v,v1,v2⟩:=hR.rowFacts hr
     rw [hxv.1]at v1
     injection v1 with v1
     have hsl: ∃ ad cap,a.eval x= .slice ad l.length cap∧l.length≤cap:=by
      grind
     obtain⟨ad,cap,hsl,hlc⟩:=hsl
     have hs:=run hR l.length cap ad hsl hn.1 hn.2.1 (by
      cases mx'<;>grind) (by
      cases mx'<;>grind)
     refine⟨_,G,fun w' _=>hs w',?_⟩
     rw [hd,Ad.put_toSt]
     refine hR.put ?_
     simp only [DV.toV,DC.toC,Ab,Ac]
     rfl
   ·exact Yl.no
  ·rename_i d id E0 o0 n0 e n hd hx ht
   split
   ·rename_i E l lo' hi' hr q1 q2 q3
    refine Yl.mIf fun hg=>Yl.opt fun u hn=>Yl.ret ?_
    simp only [Bool.and_eq_true,Nat.beq_eq]at hg
    obtain⟨g1,g2⟩:=hg
    subst g2
    have hn:=BP hn
    obtain⟨a1,a2,a3⟩:=Ev hw hx
    simp only [DV.ok,DC.ok]at a1
    obtain⟨hu,inf,hi1,hsz⟩:=BL ht
    obtain⟨H1,n1⟩:=Ad.put_nx hw (some d) (v:= .c (.bs id E0 (lo'.getD 0) (hi'.getD (n0.toNat:Nat) - lo'.getD 0))) (by grind [DV.ok,DC.ok])
    refine⟨⟨H1,n1⟩,AB _ _ _,fun Fr a w G hI hR=>?_⟩
    have hxv:=hR.arg rfl a2
    rw [a3]at hxv
    simp only [DV.toV,DC.toC,Ab,Ac]at hxv
    obtain⟨b1,len0,cap0,o1,cap1,x1,x2,x3,x4,x5⟩:=hxv
    obtain⟨v,v1,v2⟩:=hR.rowFacts hr
    rw [x1]at v1
    injection v1 with v1
    rcases v2 with ⟨p,_,v2⟩ | ⟨b,cap,cur,q,v3,v4,v5,v6,v7,v8⟩
    ·omega
    ·rw [q]at v1
     injection v1 with z1 z2 z3
     injection z1 with z1
     injection z1 with z1
     subst z1 z2 z3
     have ho1:o1=0:=by grind
     subst ho1
     have hc1:cap1=cap0:=by grind
     subst hc1
     obtain⟨k1,e1⟩:=EA hw q1 hR
     obtain⟨k2,e2⟩:=EA hw q2 hR
     obtain⟨k3,e3⟩:=EA hw q3 hR
     have hs:=fun w'=>Zk (P:=P) n0.toNat cap1 k1 k2 k3 lo' hi' none (by simp) hn.2.1 hn.2.2.1 (by simp only [Option.getD_none];omega) (by simp) w'
     refine⟨.slice (if cap1=(lo'.getD 0).toNat then some ⟨b1,0,none⟩else(some (⟨b1,0,none⟩:Addr)).map (·.add ((lo'.getD 0).toNat *n))) ((hi'.getD (n0.toNat:Nat)).toNat - (lo'.getD 0).toNat) (cap1 - (lo'.getD 0).toNat),G,fun w' _=>?_,?_⟩
     ·have hsw:=hs w'
      simp only [Option.getD_none,Int.toNat_natCast,Option.map_none]at hsw e3
      simp [execOp,hop,e1,e2,e3,x2,Instr.sliceAt,Instr.slice,Sem.run_bind,run_underlying hu,hsw,sizeOf,typeInfo,program,Sem.run,hi1,hsz]
     ·rw [hd,Ad.put_toSt]
      refine hR.put ?_
      simp only [DV.toV,DC.toC,Ab,Ac]
      refine⟨b1,l.length,cap1,(if cap1=(lo'.getD 0).toNat then 0 else(lo'.getD 0).toNat *n),cap1 - (lo'.getD 0).toNat,x1,?_,?_,by omega,fun hlt=>?_⟩
      ·grind [Addr.add_mid]
      all_goals grind
   ·exact Yl.no
  ·exact Yl.no
 ·exact Yl.no
end Go.PL
set_option linter.all false
namespace Go.PL
open Go Go.RowKit
variable {T:AN}
theorem PW {α:Type} {f:α→List C} {n:Nat} (hf: ∀ x,(f x).length =n) (l:List α):(l.flatMap f).length =l.length*n:=BO hf l
theorem R.rowStored {F:Fr} {st:Ad T} {H:Am T} {a:Act} {w:World} {G:Au} (hR:R F st.toSt a w G) (hw:Av H st) {id:Ae} {E:Nat} {l m:List (T.den E)} (h:CJ st id=some ⟨E,l⟩) {b:Nat} (hb:G.blk id=some b) {off:Nat} {xs:List C} {vs:List Value} (hx:Ag w G xs vs) (hp:Aj xs=true) (hml:m.length=l.length)
 (hm:(l.flatMap (T.enc E)).take off++xs++(l.flatMap (T.enc E)).drop (off+xs.length)=m.flatMap (T.enc E)) (hoff:off+xs.length≤l.length*T.sz E):
 ∃ cur T',w.heap[b]? =some (.cells cur T' (0,0))∧off+vs.length≤cur.size∧R F (st.setX id (.row E m)).toSt a (w.setRow b (cur.toList.take off++vs++cur.toList.drop (off+vs.length)).toArray) G:=by
 obtain⟨h1,_,e,e1,e2,e3⟩:=Be h
 obtain⟨cur,T',c1,c2,c3⟩:=hR.stored h1 hb (off:=off) hx (by grind [PW,AA])
 refine⟨cur,T',c1,c2,?_⟩
 have:=Ad.setX_toSt hw e1 e2 (x:= .row E m) (cs:=m.flatMap (T.enc E)) (q:=Aj xs) (by
  rw [DE.toE_row e3,e2,hp]
  show (⟨id,some (E,T.sz E,l.length),m.flatMap (T.enc E),true&&true⟩:Ak)=⟨id,some (E,T.sz E,m.length),m.flatMap (T.enc E),true⟩
  rw [hml];rfl)
 grind
def kX (P:Program) (o:Oper) (st:Ad T):M (Ad T):=match o.op with
 | .call c=>match c.callee,c.args.toList,c.argTypes.toList with
   | .builtin .clear,[x],[t]=>match st.arg [] x,BZ P t with
     | some (.c (.bs id E0 o0 n0)),some (e,n)=>match CJ st id,JJ P e with
       | some ⟨E,l⟩,some z=>match bZ false E z with
         | some z0=>mIf (Nat.beq n (T.sz E)&&(Nat.beq z.length n&&(Nat.beq E0 E&&Nat.blt 0 n))) (.opt (Fb (o0+n0≤(l.length:Nat)∧0<l.length)) fun _=>
          .ret ((st.setX id (.row E (l.take o0.toNat++(List.replicate n0.toNat z0++l.drop (o0.toNat+n0.toNat))))).put o.dst (.tup [])))
         | none=> .no
       | _,_=> .no
     | _,_=> .no
   | _,_,_=> .no
 | _=> .no
theorem JY {α:Type} {f:α→List C} (z:α): ∀ n:Nat,(List.replicate n z).flatMap f=Bj (f z) n
 | 0=>by simp [Bj]
 | n+1=>by rw [List.replicate_succ,List.flatMap_cons,JY z n,MQ]
theorem ib {H:Am T} {P:Program} {I:World→Prop} {st:Ad T} (hw:Av H st) {o:Oper}:Yl (kX P o st) (fun st'=>(∃ H',Nx H st H' st')∧st'.pre=st.pre∧ ∀ K:St→Prop,K st'.toSt→Dk P I o st.toSt K):=by
 unfold kX
 split
 ·rename_i c hop
  split
  ·rename_i x t hcal hargs htys
   split
   ·rename_i id E0 o0 n0 e n hx ht
    split
    ·rename_i E l z hr hz
     split
     ·rename_i z0 hz0
      refine Yl.mIf fun hg=>Yl.opt fun u hn=>Yl.ret ?_
      simp only [Bool.and_eq_true,Nat.beq_eq,Nat.blt_eq]at hg
      obtain⟨g1,g2,g3,g4⟩:=hg
      subst g1 g3
      have hn:=BP hn
      obtain⟨a1,a2,a3⟩:=Ev hw hx
      simp only [DV.ok,DC.ok]at a1
      obtain⟨hu,inf,hi1,hsz⟩:=BL ht
      obtain⟨z1,z2⟩:=EX hz
      obtain⟨inf2,zv,hi2,hzv,hzc⟩:=El z1
      rw [hi1]at hi2;injection hi2 with hi2;subst hi2
      have hzE:Al z=T.enc E0 z0:=(EQ hz0).2 rfl
      obtain⟨H1,n1⟩:=Ad.setX_nx hw id (x:= .row E0 (l.take o0.toNat++(List.replicate n0.toNat z0++l.drop (o0.toNat+n0.toNat)))) trivial
      obtain⟨H2,n2⟩:=Ad.put_spec n1 o.dst (v:= .tup []) (by simp [DV.ok,BR])
      refine⟨⟨H2,n2⟩,by rw [AB];rfl,fun K hK Fr a w G Q hI hR=>?_⟩
      have hxv:=hR.arg rfl a2
      rw [a3]at hxv
      simp only [DV.toV,DC.toC,Ab,Ac]at hxv
      obtain⟨b1,len0,cap0,o1,cap1,x1,x2,x3,x4,x5⟩:=hxv
      obtain⟨v,v1,v2⟩:=hR.rowFacts hr
      rw [x1]at v1
      injection v1 with v1
      rcases v2 with ⟨p,_,v2⟩ | ⟨b,cap,cur,q,v3,v4,v5,v6,v7,v8⟩
      ·omega
      rw [q]at v1
      injection v1 with y1 y2 y3
      injection y1 with y1
      injection y1 with y1
      subst y1 y2 y3
      have hzz:Ag w G (Bj (T.enc E0 z0) n0.toNat) (Builtin.zeroCells zv.cells n0.toNat).toList :=by
       have hzl:=Dp (w:=w) (G:=G) hzc
       rw [hzE]at hzl
       exact GZ hzl (by rw [AA];exact g4) n0.toNat
      have hlen:(Bj (T.enc E0 z0) n0.toNat).length =n0.toNat*T.sz E0:=by rw [←JY,PW (fun y=>AA E0 y),List.length_replicate]
      have hle:o0.toNat*T.sz E0+n0.toNat*T.sz E0≤l.length*T.sz E0:=by rw [←Nat.add_mul];exact Nat.mul_le_mul_right _ (by omega)
      obtain⟨cur',T',c1,c2,c3⟩:=R.rowStored (m:=l.take o0.toNat++(List.replicate n0.toNat z0++l.drop (o0.toNat+n0.toNat))) hR hw hr v3 (off:=o0.toNat*T.sz E0) hzz (MH (by rw [←hzE];have:=Cv (T:=T) (.s E0) z0;grind [DZ,V.pure]) _) (by simp;omega) (by
       rw [hlen,List.flatMap_append,List.flatMap_append,JY, ←Er (fun y=>AA E0 y), ←Ft (fun y=>AA E0 y),List.append_assoc,Nat.add_mul]) (by grind)
      have ea:c.args= #[x]:=by grind
      have et:c.argTypes= #[t]:=by grind
      have hzr:(zeroValue e).run P w= .ok zv w:=by simp_all [zeroValue,typeInfo]
      have hone:=Ag.one hzz
      by_cases h0:n0.toNat=0
      ·have hnil:(Builtin.zeroCells zv.cells n0.toNat).toList =[]:=by rw [h0];simp [Builtin.zeroCells]
       have hrun:(execOp a.eval o).run P w= .ok (.value (.tuple #[])) w:=by
        simp_all [execOp,resolve,invoke,builtin,Builtin.clear_,run_underlying]
       rw [hnil]at c3
       have hself:w.setRow b1 (cur'.toList.take (o0.toNat*T.sz E0)++([]:List Value)++cur'.toList.drop (o0.toNat*T.sz E0+([]:List Value).length)).toArray =w:=by
        simp only [List.append_nil,List.length_nil,Nat.add_zero,List.take_append_drop,Array.toArray_toList]
        exact setRow_self w b1 cur' T' (0,0) c1
       rw [hself]at c3
       exact Ap hrun ⟨_,G,hK,by rw [Ad.put_toSt];exact c3.put (by simp only [DV.toV,AH,Ab,An];grind)⟩
      ·have ho1:o1=o0.toNat*T.sz E0:=x5 (by omega)
       have hst:=run_storeCells_at P b1 (o0.toNat*T.sz E0) T' (Builtin.zeroCells zv.cells n0.toNat).toList 0 cur' w c1 (by grind) hone
       simp only [Nat.add_zero]at hst
       generalize hw1:w.setRow b1 _=w1 at hst c3
       have hrun:(execOp a.eval o).run P w= .ok (.value (.tuple #[])) w1:=by
        have h0':n0.toNat ≠ 0:=h0
        obtain⟨k,hk⟩:=Nat.exists_eq_succ_of_ne_zero h0'
        rw [hk]at hst
        simp [execOp,hop,resolve,hcal,ea,et,invoke,builtin,Builtin.clear_,Sem.run_bind,run_underlying hu,x2,hk,hzr,ho1,hst]
       exact Ap hrun ⟨_,G,hK,by rw [Ad.put_toSt];exact c3.put (by simp only [DV.toV,AH,Ab,An];grind)⟩
     ·exact Yl.no
    ·exact Yl.no
   ·exact Yl.no
  ·exact Yl.no
 ·exact Yl.no
def kY (P:Program) (o:Oper) (st:Ad T):M (Ad T):=match o.op with
 | .call c=>match o.dst,c.callee,c.args.toList,c.argTypes.toList with
   | some d, .builtin .append,[x,y],[t,t']=>match st.arg [] x,st.arg [] y,BZ P t with
     | some (.c (.bs id E0 o0 i)),some (.c (.bs id2 E2 j m)),some (e,n)=>match CJ st id with
       | some ⟨E,l⟩=>mIf ((AG id2 id&&(Nat.beq t t'&&Nat.beq e E))&&(Nat.beq n (T.sz E)&&(Nat.beq E0 E&&Nat.beq E2 E))) (.opt (Fb (o0=0∧i+m≤(l.length:Nat)∧j+m≤(l.length:Nat)∧0<l.length)) fun _=>
        .ret ((st.setX id (.row E (l.take i.toNat++((l.drop j.toNat).take m.toNat++l.drop (i.toNat+m.toNat))))).put (some d) (.c (.bs id E 0 (i+m)))))
       | none=> .no
     | _,_,_=> .no
   | _,_,_,_=> .no
 | _=> .no
theorem ic {H:Am T} {P:Program} {I:World→Prop} {st:Ad T} (hw:Av H st) {o:Oper}:Yl (kY P o st) (fun st'=>(∃ H',Nx H st H' st')∧st'.pre=st.pre∧ ∀ K:St→Prop,K st'.toSt→Dk P I o st.toSt K):=by
 unfold kY
 split
 ·rename_i c hop
  split
  ·rename_i d x y t t' hd hcal hargs htys
   split
   ·rename_i id E0 o0 i id2 E2 j m e n hx hy ht
    split
    ·rename_i E l hr
     refine Yl.mIf fun hg=>Yl.opt fun u hn=>Yl.ret ?_
     simp only [Bool.and_eq_true,Nat.beq_eq]at hg
     obtain⟨⟨g0,gt,ge⟩,g1,g2,g3⟩:=hg
     have g0:=(Az.1 g0).symm
     subst g0 gt g1 g2 g3 ge
     have hn:=BP hn
     obtain⟨a1,a2,a3⟩:=Ev hw hx
     obtain⟨b1,b2,b3⟩:=Ev hw hy
     simp only [DV.ok,DC.ok]at a1 b1
     obtain⟨hu,inf,hi1,hsz⟩:=BL ht
     obtain⟨H1,n1⟩:=Ad.setX_nx hw id (x:= .row e (l.take i.toNat++((l.drop j.toNat).take m.toNat++l.drop (i.toNat+m.toNat)))) trivial
     obtain⟨H2,n2⟩:=Ad.put_spec n1 (some d) (v:= .c (.bs id e 0 (i+m))) (by grind [DV.ok,DC.ok])
     refine⟨⟨H2,n2⟩,by rw [AB];rfl,fun K hK Fr a w G Q hI hR=>?_⟩
     have hxv:=hR.arg rfl a2
     rw [a3]at hxv
     simp only [DV.toV,DC.toC,Ab,Ac]at hxv
     obtain⟨c1,len0,cap0,o1,cap1,x1,x2,x3,x4,x5⟩:=hxv
     have hyv:=hR.arg rfl b2
     rw [b3]at hyv
     simp only [DV.toV,DC.toC,Ab,Ac]at hyv
     obtain⟨c1',len0',cap0',o2,cap2,y1,y2,y3,y4,y5⟩:=hyv
     rw [x1]at y1
     injection y1 with y1
     injection y1 with w1 w2 w3
     injection w1 with w1
     injection w1 with w1
     subst w1 w2 w3
     obtain⟨v,v1,v2⟩:=hR.rowFacts hr
     rw [x1]at v1
     injection v1 with v1
     rcases v2 with ⟨p,_,v2⟩ | ⟨b,cap,cur,q,v3,v4,v5,v6,v7,v8⟩
     ·omega
     rw [q]at v1
     injection v1 with k1 k2 k3
     injection k1 with k1
     injection k1 with k1
     subst k1 k2 k3
     have ho1:o1=0:=by grind
     have hc1:cap1=cap0:=by grind
     subst ho1 hc1
     obtain⟨us,u1,u2⟩:=v8.list
     have hul:us.length=l.length*T.sz e:=by rw [←u1.length,PW (fun y=>AA e y)]
     have hmv:Ag w G (((l.drop j.toNat).take m.toNat).flatMap (T.enc e)) ((us.drop (j.toNat*T.sz e)).take (m.toNat*T.sz e)):=by
      rw [←Er (fun y=>AA e y), ←Ft (fun y=>AA e y)]
      exact(u1.drop _).take _
     have hjm:j.toNat*T.sz e+m.toNat*T.sz e≤l.length*T.sz e:=by rw [←Nat.add_mul];exact Nat.mul_le_mul_right _ (by omega)
     have him:i.toNat*T.sz e+m.toNat*T.sz e≤l.length*T.sz e:=by rw [←Nat.add_mul];exact Nat.mul_le_mul_right _ (by omega)
     have hnl:((us.drop (j.toNat*T.sz e)).take (m.toNat*T.sz e)).length =m.toNat*T.sz e:=by rw [List.length_take,List.length_drop];omega
     have hxl:(((l.drop j.toNat).take m.toNat).flatMap (T.enc e)).length =m.toNat*T.sz e:=by rw [hmv.length,hnl]
     have hpure:Aj (((l.drop j.toNat).take m.toNat).flatMap (T.enc e))=true:=Cc _ (fun y=>by have:=Cv (T:=T) (.s e) y;simpa only [DZ,V.pure] using this) _
     obtain⟨cur',T',s1,s2,s3⟩:=R.rowStored (m:=l.take i.toNat++((l.drop j.toNat).take m.toNat++l.drop (i.toNat+m.toNat))) hR hw hr v3 (off:=i.toNat*T.sz e) hmv hpure (by simp;omega) (by
      rw [hxl,List.flatMap_append,List.flatMap_append, ←Er (fun y=>AA e y) l i.toNat, ←Ft (fun y=>AA e y) l (i.toNat+m.toNat),List.append_assoc,Nat.add_mul]) (by grind)
     rw [v4]at s1
     injection s1 with s1
     injection s1 with s1 s1' _
     subst s1 s1'
     have hsrc: ∀ jj u',((us.drop (j.toNat*T.sz e)).take (m.toNat*T.sz e))[jj]? =some u'→w.cell? ((⟨c1,o2,none⟩:Addr).add jj)=some u':=by
      intro jj u' hj
      have hlt:jj<m.toNat*T.sz e:=by grind
      have hm0:0<m.toNat:=by
       grind
      have ho2:o2=j.toNat*T.sz e:=y5 (by omega)
      rw [List.getElem?_take,if_pos hlt,List.getElem?_drop]at hj
      have:=u2 _ _ hj
      simp_all [Addr.add_mid]
     have hrun0:=run_append_room (P:=P) w t o.type e inf hu hi1 c1 i.toNat cap1 cur v4 ⟨c1,o2,none⟩ m.toNat cap2 ((us.drop (j.toNat*T.sz e)).take (m.toNat*T.sz e)) (by grind) hsrc (Ag.one hmv) (by omega) (by grind)
     rw [hsz]at hrun0
     have ea:c.args= #[x,y]:=by grind
     have et:c.argTypes= #[t,t]:=by grind
     generalize w.setRow c1 _=w1 at hrun0 s3
     have hrun:(execOp a.eval o).run P w= .ok (.value (.slice (some ⟨c1,0,none⟩) (i.toNat+m.toNat) cap1)) w1:=by
      simp_all [execOp,resolve,invoke,builtin]
     refine Ap hrun ⟨_,G,hK,?_⟩
     rw [hd,Ad.put_toSt]
     refine s3.put ?_
     simp only [DV.toV,DC.toC,Ab,Ac]
     exact⟨c1,l.length,cap1,0,cap1,x1,by rw [show (i+m).toNat =i.toNat+m.toNat by omega],by omega,by simp,fun _=>by simp⟩
    ·exact Yl.no
   ·exact Yl.no
  ·exact Yl.no
 ·exact Yl.no
end Go.PL
