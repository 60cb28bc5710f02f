/- The pure logic: Kr, Ks, Ku, PlPa, PlPb, PlPd, PlPx. -/
import Derived.Test.YthppcliidflkjaaGreatDoorTqtoKq
import Derived.Scope
import Derived.Test.YthppcliidflkjaaGreatDoorPlRtoPlPe
import Derived.Lib.ItoaNum
import GoSem.ClaimSeven
import Derived.JoinedOf
import Derived.Handed
import Derived.LaidSub
import Derived.Lib.LaidTab
set_option linter.all false
namespace Go.PL
open Go Go.RowKit
noncomputable section
def pJ:Value→Value→Bool
 | .pointer none, .pointer none=>true
 | .slice none 0 0, .slice none 0 0=>true
 | .nilIface, .nilIface =>true
 | .nilFunc, .nilFunc =>true
 | .map none, .map none=>true
 | _,_=>false
def pX (a b:IntKind):Bool:=decide (a=b)
mutual
def bL:Kc→Kc→Bool
 | .i k n, .i k' n'=>pX k k'&&decide (n=n')
 | .b x, .b y=>x==y
 | .s x, .s y=>x==y
 | .z x, .z y=>pJ x y
 | .p a b, .p c d=>Nat.beq a c&&Nat.beq b d
 | .l a b c d e, .l a' b' c' d' e'=>Nat.beq a a'&&(Nat.beq b b'&&(Nat.beq c c'&&(Nat.beq d d'&&Nat.beq e e')))
 | .e, .e =>true
 | .f f x y, .f g x' y'=>Nat.beq f g&&(WR x x'&&WR y y')
 | .g a b, .g c d=>Nat.beq a c&&Nat.beq b d
 | .u, .u =>true
 | _,_=>false
def WR:List Kc→List Kc→Bool
 | [],[]=>true
 | c::cs,d::ds=>bL c d&&WR cs ds
 | _,_=>false
end
def pK:Kv→Kv→Bool
 | .c x, .c y=>bL x y
 | .a x, .a y=>WR x y
 | .sk, .sk =>true
 | .u, .u =>true
 | _,_=>false
theorem l9 {x y:Value} (h:pJ x y=true):x=y:=by
 unfold pJ at h
 split at h<;>first | rfl | cases h
mutual
theorem fv: ∀ {x y:Kc},bL x y=true→x=y
 | .i k n,y,h=>by
   cases y<;>simp only [bL,Bool.and_eq_true,decide_eq_true_eq,pX]at h<;>first | (rw [h.1,h.2];done) | cases h
 | .b x,y,h=>by cases y<;>simp only [bL,beq_iff_eq]at h<;>first | (rw [h];done) | cases h
 | .s x,y,h=>by cases y<;>simp only [bL,beq_iff_eq]at h<;>first | (rw [h];done) | cases h
 | .z x,y,h=>by cases y<;>simp only [bL]at h<;>first | (rw [l9 h];done) | cases h
 | .p a b,y,h=>by
   cases y<;>simp only [bL,Bool.and_eq_true]at h<;>first | (rw [Nat.eq_of_beq_eq_true h.1,Nat.eq_of_beq_eq_true h.2];done) | cases h
 | .l a b c d e,y,h=>by
   cases y<;>simp only [bL,Bool.and_eq_true]at h<;>first | (rw [Nat.eq_of_beq_eq_true h.1,Nat.eq_of_beq_eq_true h.2.1,Nat.eq_of_beq_eq_true h.2.2.1,Nat.eq_of_beq_eq_true h.2.2.2.1,Nat.eq_of_beq_eq_true h.2.2.2.2];done) | cases h
 | .e,y,h=>by cases y<;>simp only [bL]at h<;>first | rfl | cases h
 | .f f x z,y,h=>by
   cases y<;>simp only [bL,Bool.and_eq_true]at h<;>first | (rw [Nat.eq_of_beq_eq_true h.1,N7 h.2.1,N7 h.2.2];done) | cases h
 | .g a b,y,h=>by
   cases y<;>simp only [bL,Bool.and_eq_true]at h<;>first | (rw [Nat.eq_of_beq_eq_true h.1,Nat.eq_of_beq_eq_true h.2];done) | cases h
 | .u,y,h=>by cases y<;>simp only [bL]at h<;>first | rfl | cases h
theorem N7: ∀ {x y:List Kc},WR x y=true→x=y
 | [],[],_=>rfl
 | [],_::_,h=>by simp [WR]at h
 | _::_,[],h=>by simp [WR]at h
 | c::cs,d::ds,h=>by
   simp only [WR,Bool.and_eq_true]at h
   rw [fv h.1,N7 h.2]
end
theorem ma {x y:Kv} (h:pK x y=true):x=y:=by
 cases x<;>cases y<;>simp only [pK]at h<;>first
  | rfl
  | (rw [fv h];done)
  | (rw [N7 h];done)
  | cases h
structure Gl where
 vs:Kt Kv
 ks:Kt Ko
 qs:Kt Nat
 hs:Kt (Kt Ke×Nat×Nat)
 p:Nat
 mks:List (Nat×Ke)
def Mz {α:Type} (t:Kt α) (d:α) (i:Nat):α:=match t.get i with
 | some x=>x
 | none=>d
def Gl.D (s:Gl):KD:=⟨gt s.vs,Mz s.ks .fl,Mz s.qs 0,fun p=>(Mz s.hs (.lf,0,0) p).1,fun p=>(Mz s.hs (.lf,0,0) p).2.1,fun p=>(Mz s.hs (.lf,0,0) p).2.2,s.mks,s.p⟩
def qf (op:Op):Nat:=match op with
 | .load .. =>1
 | .alloc _=>2
 | .box .. =>2
 | .buildSlice .. =>2
 | .makeSlice .. =>2
 | .store .. =>3
 | .call c=>match c.callee with
   | .builtin .append =>3
   | .builtin .clear =>3
   | .builtin .unsafeString =>3
   | .value _=>3
   | _=>0
 | _=>0
def pL (P:Program) (X:KX) (gs:List (Nat×List Kc)) (rec:QS) (ops:Array Oper) (m:Nat→Nat) (dm:Kt Nat) (c0:Nat) (tm:Kt Kv) (i:Nat) (o:Oper) (s:Gl):Option Gl:=
 match mJ (Ct dm (m i) tm (gt s.vs) (o.looksAt ops)) ops o with
 | none=>none
 | some false=>some ⟨s.vs.put i (some .sk),s.ks,s.qs,s.hs,s.p,s.mks⟩
 | some true=>match qf o.op with
   | 0=>match QR P (Ct dm (m i) tm (gt s.vs) (o.looksAt ops)) o.op with
     | some v=>some ⟨s.vs.put i (some v),s.ks,s.qs,s.hs,s.p,s.mks⟩
     | none=>none
   | 1=>match lZ P gs (s.D.U c0 (A4 (m i)) s.p) (Ct dm (m i) tm (gt s.vs) (o.looksAt ops)) o.op with
     | some v=>some ⟨s.vs.put i (some v),s.ks.put i (some .ld),s.qs,s.hs,s.p,s.mks⟩
     | none=>none
   | 2=>match mI P (Ct dm (m i) tm (gt s.vs) (o.looksAt ops)) o.op (c0+i)with
     | some (e,v)=>some ⟨s.vs.put i (some v),s.ks.put i (some (.mk e)),s.qs,s.hs,s.p,(i,e)::s.mks⟩
     | none=>none
   | _=>match SN P X gs rec (Ct dm (m i) tm (gt s.vs) (o.looksAt ops)) (s.D.U c0 (A4 (m i)) s.p) (s.D.Cn s.p) o.op with
     | some (v,h',c')=>some ⟨s.vs.put i (some v),s.ks.put i (some .ch),s.qs.put i (some s.p),s.hs.put (s.p+1) (some (h',c',s.D.ab s.p||| m i)),s.p+1,s.mks⟩
     | none=>none
def mK (P:Program) (X:KX) (gs:List (Nat×List Kc)) (rec:QS) (ops:Array Oper) (m:Nat→Nat) (dm:Kt Nat) (c0:Nat) (tm:Kt Kv):List Oper→Nat→Gl→Option Gl
 | [],_,s=>some s
 | o::r,i,s=>match pL P X gs rec ops m dm c0 tm i o s with
   | some s'=>mK P X gs rec ops m dm c0 tm r (i+1) s'
   | none=>none
structure II (i:Nat) (s s':Gl):Prop where
 vs: ∀ j,j<i→s'.vs.get j=s.vs.get j
 ks: ∀ j,j<i→s'.ks.get j=s.ks.get j
 qs: ∀ j,j<i→s'.qs.get j=s.qs.get j
 hs: ∀ p,p≤s.p→s'.hs.get p=s.hs.get p
 pl:s.p≤s'.p
 mks: ∀ f:Nat×Ke→Bool,(∀ x,i≤x.1→f x=false)→s'.mks.filter f=s.mks.filter f
theorem II.refl (i:Nat) (s:Gl):II i s s:=⟨fun _ _=>rfl,fun _ _=>rfl,fun _ _=>rfl,fun _ _=>rfl,Nat.le_refl _,fun _ _=>rfl⟩
theorem II.trans {i:Nat} {a b c:Gl} (x:II i a b) (y:II (i+1) b c):II i a c:=
 ⟨fun j hj=>(y.vs j (by omega)).trans (x.vs j hj),fun j hj=>(y.ks j (by omega)).trans (x.ks j hj),fun j hj=>(y.qs j (by omega)).trans (x.qs j hj),
  fun p hp=>(y.hs p (Nat.le_trans hp x.pl)).trans (x.hs p hp),Nat.le_trans x.pl y.pl,fun f hf=>(y.mks f fun z hz=>hf z (by omega)).trans (x.mks f hf)⟩
structure bM (m:Nat→Nat) (i:Nat) (s:Gl):Prop where
 ks: ∀ j,i≤j→s.ks.get j=none
 mlt: ∀ j e,(j,e)∈s.mks→j<i
 mkn:(s.mks.map (·.1)).Nodup
 mkm: ∀ j e,(j,e)∈s.mks↔s.D.kd j= .mk e
 clt: ∀ j,s.D.kd j= .ch →j<i∧s.D.qi j<s.p
 chs: ∀ p,p<s.p→ ∃ j,s.D.kd j= .ch ∧s.D.qi j=p
 mono: ∀ j k,s.D.kd j= .ch →s.D.kd k= .ch →j<k→s.D.qi j<s.D.qi k
 abS: ∀ j,s.D.kd j= .ch →s.D.ab (s.D.qi j+1)=s.D.ab (s.D.qi j)||| m j
section
variable {P:Program} {X:KX} {gs:List (Nat×List Kc)} {rec:QS} {ops:Array Oper} {m:Nat→Nat} {dm:Kt Nat} {n c0:Nat} {tm:Kt Kv} {h:Kt Ke}
theorem NA {mi:Nat} {V V':Nat→Kv} (hv: ∀ j,A4 mi j=true→V j=V' j): ∀ l:List Nat,Ct dm mi tm V l=Ct dm mi tm V' l
 | []=>rfl
 | s::r=>by
   simp only [Ct]
   rw [NA hv r]
   congr 2
   unfold iV
   split
   ·rename_i j _
    split
    ·rename_i hb;rw [hv j hb]
    ·rfl
   ·rfl
theorem KD.U_ext {i:Nat} {s s':Gl} (hx:II i s s') {f:Nat→Bool} (hf: ∀ j,f j=true→j<i) {p:Nat} (hp:p≤s.p):s'.D.U c0 f p=s.D.U c0 f p:=by
 have h1:Mz s'.hs (.lf,0,0) p=Mz s.hs (.lf,0,0) p:=by unfold Mz;rw [hx.hs p hp]
 unfold KD.U Ux
 simp only [Gl.D,h1]
 rw [hx.mks _ fun x hx'=>by
  have:f x.1=false:=by
   cases q:f x.1 with
   | false=>rfl
   | true=>have:=hf x.1 q;omega
  simp [this]]
def nJ (P:Program) (X:KX) (gs:List (Nat×List Kc)) (rec:QS) (ops:Array Oper) (m:Nat→Nat) (dm:Kt Nat) (c0:Nat) (tm:Kt Kv) (D:KD) (i:Nat) (o:Oper):Prop:=
 ∃ g,mJ (Ct dm (m i) tm D.V (o.looksAt ops)) ops o=some g∧(g=false→D.kd i= .fl ∧D.V i= .sk)∧(g=true→
   (D.kd i= .fl →QR P (Ct dm (m i) tm D.V (o.looksAt ops)) o.op=some (D.V i))∧
   (∀ e,D.kd i= .mk e→mI P (Ct dm (m i) tm D.V (o.looksAt ops)) o.op (c0+i)=some (e,D.V i))∧
   (D.kd i= .ch →SN P X gs rec (Ct dm (m i) tm D.V (o.looksAt ops)) (D.U c0 (A4 (m i)) (D.qi i)) (D.Cn (D.qi i)) o.op=some (D.V i,D.Hp (D.qi i+1),D.Cn (D.qi i+1))))
theorem Ls {β:Type} {t:Kt β} {i:Nat} {x:β} {d:β} {j:Nat}:Mz (t.put i (some x)) d j=if j=i then x else Mz t d j:=by
 unfold Mz
 rw [Kt.get_put]
 by_cases q:j=i
 ·rw [if_pos q,if_pos q]
 ·rw [if_neg q,if_neg q]
theorem WS {β:Type} {t:Kt β} {d:β} {j:Nat} (h:t.get j=none):Mz t d j=d:=by unfold Mz;rw [h]
theorem mc (hm:Uv ops m) {i:Nat} {o:Oper} (ho:ops[i]? =some o) {s s1:Gl} (hp:bM m i s) (h1:pL P X gs rec ops m dm c0 tm i o s=some s1):
 bM m (i+1) s1∧II i s s1∧(∀ s',II (i+1) s1 s'→nJ P X gs rec ops m dm c0 tm s'.D i o):=by
 have hki:=hp.ks i (Nat.le_refl i)
 have hb:=hm.back i o ho
 have vx: ∀ v,II i s ⟨s.vs.put i (some v),s.ks,s.qs,s.hs,s.p,s.mks⟩:=fun v=>
  ⟨fun j hj=>by simp only [Kt.get_put];rw [if_neg (by omega)],fun _ _=>rfl,fun _ _=>rfl,fun _ _=>rfl,Nat.le_refl _,fun _ _=>rfl⟩
 have vp: ∀ v,bM m (i+1) ⟨s.vs.put i (some v),s.ks,s.qs,s.hs,s.p,s.mks⟩:=fun v=>
  ⟨fun j hj=>hp.ks j (by omega),fun j e he=>by have:=hp.mlt j e he;omega,hp.mkn,hp.mkm,fun j hj=>by have:=hp.clt j hj;exact⟨by omega,this.2⟩,hp.chs,hp.mono,hp.abS⟩
 have view: ∀ s',II i s s'→Ct dm (m i) tm s'.D.V (o.looksAt ops)=Ct dm (m i) tm (gt s.vs) (o.looksAt ops):=fun s' hx=>
  NA (fun j hj=>by simp only [Gl.D,gt];rw [hx.vs j (hb j hj)]) _
 have uex: ∀ s',II i s s'→s'.D.U c0 (A4 (m i)) s.p=s.D.U c0 (A4 (m i)) s.p:=fun s' hx=>KD.U_ext hx hb (Nat.le_refl _)
 unfold pL at h1
 split at h1
 ·cases h1
 ·rename_i hg
  injection h1 with h1;subst h1
  refine⟨vp _,vx _,fun s' hx=>⟨false,by rw [view s' ((vx _).trans hx)];exact hg,fun _=>⟨?_,?_⟩,(fun q=>by cases q)⟩⟩
  ·simp only [Gl.D]
   exact WS (by rw [hx.ks i (by omega)];exact hki)
  ·simp only [Gl.D,gt]
   rw [hx.vs i (by omega)]
   simp [Kt.get_put]
 ·rename_i hg
  split at h1
  ·split at h1
   ·rename_i v hv
    injection h1 with h1;subst h1
    refine⟨vp _,vx _,fun s' hx=>⟨true,by rw [view s' ((vx _).trans hx)];exact hg,(fun q=>by cases q),fun _=>?_⟩⟩
    have hk:s'.D.kd i= .fl :=by
     simp only [Gl.D]
     exact WS (by rw [hx.ks i (by omega)];exact hki)
    have hV:s'.D.V i=v:=by
     simp only [Gl.D,gt]
     rw [hx.vs i (by omega)]
     simp [Kt.get_put]
    refine⟨fun _=>by rw [view s' ((vx _).trans hx),hV];exact hv,fun e q=>(by rw [hk]at q;cases q),fun q=>(by rw [hk]at q;cases q)⟩
   ·cases h1
  ·split at h1
   ·rename_i v hv
    injection h1 with h1;subst h1
    have ex:II i s ⟨s.vs.put i (some v),s.ks.put i (some .ld),s.qs,s.hs,s.p,s.mks⟩:=
     ⟨fun j hj=>by simp only [Kt.get_put];rw [if_neg (by omega)],fun j hj=>by simp only [Kt.get_put];rw [if_neg (by omega)],fun _ _=>rfl,fun _ _=>rfl,Nat.le_refl _,fun _ _=>rfl⟩
    have kdi: ∀ j,(⟨s.vs.put i (some v),s.ks.put i (some .ld),s.qs,s.hs,s.p,s.mks⟩:Gl).D.kd j=if j=i then .ld else s.D.kd j:=fun j=>by simp only [Gl.D,Ls]
    refine⟨⟨fun j hj=>by simp only [Kt.get_put];rw [if_neg (by omega)];exact hp.ks j (by omega),fun j e he=>by have:=hp.mlt j e he;omega,hp.mkn,fun j e=>?_,fun j hj=>?_,fun p hpp=>?_,fun j k hj hk=>?_,fun j hj=>?_⟩,ex,fun s' hx=>⟨true,by rw [view s' (ex.trans hx)];exact hg,(fun q=>by cases q),fun _=>?_⟩⟩
    ·rw [kdi]
     by_cases q:j=i
     ·rw [if_pos q]
      exact⟨fun r=>by have:=hp.mlt j e r;omega,fun r=>by cases r⟩
     ·rw [if_neg q];exact hp.mkm j e
    ·rw [kdi]at hj
     by_cases q:j=i
     ·rw [if_pos q]at hj;cases hj
     ·rw [if_neg q]at hj;have:=hp.clt j hj;exact⟨by omega,this.2⟩
    ·obtain⟨j,q1,q2⟩:=hp.chs p hpp
     exact⟨j,by rw [kdi,if_neg (fun e=>by have:=(hp.clt j q1).1;omega)];exact q1,q2⟩
    ·rw [kdi]at hj hk
     by_cases q:j=i
     ·rw [if_pos q]at hj;cases hj
     ·by_cases r:k=i
      ·rw [if_pos r]at hk;cases hk
      ·rw [if_neg q]at hj;rw [if_neg r]at hk;exact hp.mono j k hj hk
    ·rw [kdi]at hj
     by_cases q:j=i
     ·rw [if_pos q]at hj;cases hj
     ·rw [if_neg q]at hj;exact hp.abS j hj
    ·have hk:s'.D.kd i= .ld :=by
      simp only [Gl.D,Mz]
      rw [hx.ks i (by omega)]
      simp [Kt.get_put]
     exact⟨fun q=>(by rw [hk]at q;cases q),fun e q=>(by rw [hk]at q;cases q),fun q=>(by rw [hk]at q;cases q)⟩
   ·cases h1
  ·split at h1
   ·rename_i e v hv
    injection h1 with h1;subst h1
    have ex:II i s ⟨s.vs.put i (some v),s.ks.put i (some (.mk e)),s.qs,s.hs,s.p,(i,e)::s.mks⟩:=
     ⟨fun j hj=>by simp only [Kt.get_put];rw [if_neg (by omega)],fun j hj=>by simp only [Kt.get_put];rw [if_neg (by omega)],fun _ _=>rfl,fun _ _=>rfl,Nat.le_refl _,fun f hf=>by simp [List.filter_cons,hf (i,e) (Nat.le_refl _)]⟩
    have kdi: ∀ j,(⟨s.vs.put i (some v),s.ks.put i (some (.mk e)),s.qs,s.hs,s.p,(i,e)::s.mks⟩:Gl).D.kd j=if j=i then .mk e else s.D.kd j:=fun j=>by simp only [Gl.D,Ls]
    refine⟨⟨fun j hj=>by simp only [Kt.get_put];rw [if_neg (by omega)];exact hp.ks j (by omega),fun j d he=>?_,?_,fun j d=>?_,fun j hj=>?_,fun p hpp=>?_,fun j k hj hk=>?_,fun j hj=>?_⟩,ex,fun s' hx=>⟨true,by rw [view s' (ex.trans hx)];exact hg,(fun q=>by cases q),fun _=>?_⟩⟩
    ·rcases List.mem_cons.1 he with q | q
     ·injection q with q;omega
     ·have:=hp.mlt j d q;omega
    ·simp only [List.map_cons,List.nodup_cons]
     refine⟨fun q=>?_,hp.mkn⟩
     obtain⟨x,hx,hxe⟩:=List.mem_map.1 q
     have:=hp.mlt x.1 x.2 hx
     omega
    ·rw [kdi]
     simp only [List.mem_cons,Prod.mk.injEq]
     by_cases q:j=i
     ·rw [if_pos q]
      constructor
      ·rintro(⟨_,r⟩ | r)
       ·rw [r]
       ·have:=hp.mlt j d r;omega
      ·intro r;injection r with r;exact .inl ⟨q,r.symm⟩
     ·rw [if_neg q, ←hp.mkm j d]
      simp [q]
    ·rw [kdi]at hj
     by_cases q:j=i
     ·rw [if_pos q]at hj;cases hj
     ·rw [if_neg q]at hj;have:=hp.clt j hj;exact⟨by omega,this.2⟩
    ·obtain⟨j,q1,q2⟩:=hp.chs p hpp
     exact⟨j,by rw [kdi,if_neg (fun e=>by have:=(hp.clt j q1).1;omega)];exact q1,q2⟩
    ·rw [kdi]at hj hk
     by_cases q:j=i
     ·rw [if_pos q]at hj;cases hj
     ·by_cases r:k=i
      ·rw [if_pos r]at hk;cases hk
      ·rw [if_neg q]at hj;rw [if_neg r]at hk;exact hp.mono j k hj hk
    ·rw [kdi]at hj
     by_cases q:j=i
     ·rw [if_pos q]at hj;cases hj
     ·rw [if_neg q]at hj;exact hp.abS j hj
    ·have hk:s'.D.kd i= .mk e:=by
      simp only [Gl.D,Mz]
      rw [hx.ks i (by omega)]
      simp [Kt.get_put]
     have hV:s'.D.V i=v:=by
      simp only [Gl.D,gt]
      rw [hx.vs i (by omega)]
      simp [Kt.get_put]
     refine⟨fun q=>(by rw [hk]at q;cases q),fun e' q=>?_,fun q=>(by rw [hk]at q;cases q)⟩
     rw [hk]at q;injection q with q;subst q
     rw [view s' (ex.trans hx),hV];exact hv
   ·cases h1
  ·split at h1
   ·rename_i v h' c' hv
    injection h1 with h1;subst h1
    have ex:II i s ⟨s.vs.put i (some v),s.ks.put i (some .ch),s.qs.put i (some s.p),s.hs.put (s.p+1) (some (h',c',s.D.ab s.p||| m i)),s.p+1,s.mks⟩:=
     ⟨fun j hj=>by simp only [Kt.get_put];rw [if_neg (by omega)],fun j hj=>by simp only [Kt.get_put];rw [if_neg (by omega)],fun j hj=>by simp only [Kt.get_put];rw [if_neg (by omega)],fun p hpp=>by simp only [Kt.get_put];rw [if_neg (by omega)],by simp,fun _ _=>rfl⟩
    have kdi: ∀ j,(⟨s.vs.put i (some v),s.ks.put i (some .ch),s.qs.put i (some s.p),s.hs.put (s.p+1) (some (h',c',s.D.ab s.p||| m i)),s.p+1,s.mks⟩:Gl).D.kd j=if j=i then .ch else s.D.kd j:=fun j=>by simp only [Gl.D,Ls]
    have qsi: ∀ j,(⟨s.vs.put i (some v),s.ks.put i (some .ch),s.qs.put i (some s.p),s.hs.put (s.p+1) (some (h',c',s.D.ab s.p||| m i)),s.p+1,s.mks⟩:Gl).D.qi j=if j=i then s.p else s.D.qi j:=fun j=>by simp only [Gl.D,Ls]
    have abi: ∀ p,(⟨s.vs.put i (some v),s.ks.put i (some .ch),s.qs.put i (some s.p),s.hs.put (s.p+1) (some (h',c',s.D.ab s.p||| m i)),s.p+1,s.mks⟩:Gl).D.ab p=if p=s.p+1 then s.D.ab s.p||| m i else s.D.ab p:=fun p=>by
     simp only [Gl.D,Ls]
     by_cases q:p=s.p+1
     ·rw [if_pos q,if_pos q]
     ·rw [if_neg q,if_neg q]
    refine⟨⟨fun j hj=>by simp only [Kt.get_put];rw [if_neg (by omega)];exact hp.ks j (by omega),fun j e he=>by have:=hp.mlt j e he;omega,hp.mkn,fun j e=>?_,fun j hj=>?_,fun p hpp=>?_,fun j k hj hk hjk=>?_,fun j hj=>?_⟩,ex,fun s' hx=>⟨true,by rw [view s' (ex.trans hx)];exact hg,(fun q=>by cases q),fun _=>?_⟩⟩
    ·rw [kdi]
     by_cases q:j=i
     ·rw [if_pos q]
      exact⟨fun r=>by have:=hp.mlt j e r;omega,fun r=>by cases r⟩
     ·rw [if_neg q];exact hp.mkm j e
    ·rw [kdi]at hj
     rw [qsi]
     by_cases q:j=i
     ·rw [if_pos q];exact⟨by omega,Nat.lt_succ_self _⟩
     ·rw [if_neg q]at hj ⊢
      have:=hp.clt j hj
      exact⟨by omega,Nat.lt_succ_of_lt this.2⟩
    ·by_cases q:p=s.p
     ·exact⟨i,by rw [kdi,if_pos rfl],by rw [qsi,if_pos rfl,q]⟩
     ·obtain⟨j,q1,q2⟩:=hp.chs p (by simp only at hpp;omega)
      have hne:j ≠ i:=fun e=>by have:=(hp.clt j q1).1;omega
      exact⟨j,by rw [kdi,if_neg hne];exact q1,by rw [qsi,if_neg hne];exact q2⟩
    ·rw [kdi]at hj hk
     rw [qsi,qsi]
     by_cases r:k=i
     ·have q:j ≠ i:=by omega
      rw [if_neg q]at hj ⊢
      rw [if_pos r]
      exact(hp.clt j hj).2
     ·rw [if_neg r]at hk ⊢
      have:k<i:=(hp.clt k hk).1
      have q:j ≠ i:=by omega
      rw [if_neg q]at hj ⊢
      exact hp.mono j k hj hk hjk
    ·rw [kdi]at hj
     rw [qsi]
     by_cases q:j=i
     ·rw [if_pos q,abi,if_pos rfl,abi,if_neg (by omega),q]
     ·rw [if_neg q]at hj ⊢
      have:=(hp.clt j hj).2
      rw [abi,abi,if_neg (by omega),if_neg (by omega)]
      exact hp.abS j hj
    ·have hk:s'.D.kd i= .ch :=by
      simp only [Gl.D,Mz]
      rw [hx.ks i (by omega)]
      simp [Kt.get_put]
     have hV:s'.D.V i=v:=by
      simp only [Gl.D,gt]
      rw [hx.vs i (by omega)]
      simp [Kt.get_put]
     have hq:s'.D.qi i=s.p:=by
      simp only [Gl.D,Mz]
      rw [hx.qs i (by omega)]
      simp [Kt.get_put]
     refine⟨fun q=>(by rw [hk]at q;cases q),fun e' q=>(by rw [hk]at q;cases q),fun _=>?_⟩
     have hx2:=ex.trans hx
     have e1:s'.D.Cn s.p=s.D.Cn s.p:=by
      simp only [Gl.D,Mz]
      rw [hx2.hs s.p (Nat.le_refl _)]
     have e2:s'.hs.get (s.p+1)=some (h',c',s.D.ab s.p||| m i):=by
      rw [hx.hs (s.p+1) (Nat.le_refl _)]
      simp [Kt.get_put]
     have e3:s'.D.Hp (s.p+1)=h':=by simp only [Gl.D,Mz,e2]
     have e4:s'.D.Cn (s.p+1)=c':=by simp only [Gl.D,Mz,e2]
     rw [view s' hx2,hV,hq,uex s' hx2,e1,e3,e4]
     exact hv
   ·cases h1
theorem fw (hm:Uv ops m): ∀ (l:List Oper) (i:Nat) (s s':Gl),ops.toList.drop i=l→bM m i s→mK P X gs rec ops m dm c0 tm l i s=some s'→
 bM m (i+l.length) s'∧II i s s'∧ ∀ j o,i≤j→ops[j]? =some o→nJ P X gs rec ops m dm c0 tm s'.D j o
 | [],i,s,s',hl,hp,h=>by
   simp only [mK,Option.some.injEq]at h
   subst h
   refine⟨by simpa using hp,II.refl i s,fun j o hj ho=>?_⟩
   have hlt:j<ops.size:=(Array.getElem?_eq_some_iff.1 ho).1
   have:=congrArg List.length hl
   simp at this
   omega
 | o::r,i,s,s',hl,hp,h=>by
   simp only [mK]at h
   split at h
   ·rename_i s1 h1
    have hoi:ops[i]? =some o:=by
     have:=congrArg (fun l=>l[0]?) hl
     simpa using this
    have hr:ops.toList.drop (i+1)=r:=by
     have:=congrArg (fun l=>l.drop 1) hl
     simpa using this
    obtain⟨a1,a2,a3⟩:=mc hm hoi hp h1
    obtain⟨b1,b2,b3⟩:=fw hm r (i+1) s1 s' hr a1 h
    refine⟨by rw [show i+(o::r).length =i+1+r.length by simp;omega];exact b1,a2.trans b2,fun j oj hj hoj=>?_⟩
    by_cases q:j=i
    ·subst q
     rw [hoi]at hoj;injection hoj with hoj;subst hoj
     exact a3 s' b2
    ·exact b3 j oj (by omega) hoj
   ·cases h
end
end
end Go.PL
namespace Go.PL
open Go Go.RowKit
noncomputable section
def me:List Oper→Nat→Kt Nat→Kt Nat
 | [],_,t=>t
 | o::r,i,t=>me r (i+1) (match o.dst with
   | some d=>t.put d (some i)
   | none=>t)
theorem Qq: ∀ {l:List Oper} {i:Nat} {t:Kt Nat} {s:Nat},(∀ (j:Nat) (o:Oper),l[j]? =some o→o.dst ≠ some s)→(me l i t).get s=t.get s
 | [],_,_,_,_=>rfl
 | o::r,i,t,s,h=>by
   simp only [me]
   rw [Qq (fun j o' ho=>h (j+1) o' (by simpa using ho))]
   have h0:=h 0 o (by simp)
   cases hd:o.dst with
   | none=>rfl
   | some d=>simp only [Kt.get_put];rw [if_neg (fun e=>h0 (by rw [hd,e]))]
theorem Qr: ∀ {l:List Oper} {i:Nat} {t:Kt Nat} {s j:Nat} {o:Oper},l[j]? =some o→o.dst=some s→(∀ (j':Nat) (o':Oper),j' ≠ j→l[j']? =some o'→o'.dst ≠ some s)→(me l i t).get s=some (i+j)
 | [],_,_,_,_,_,h,_,_=>by simp at h
 | o'::r,i,t,s,j,o,h,hd,hu=>by
   simp only [me]
   cases j with
   | zero=>
     simp at h;subst h
     rw [Qq (fun j o'' ho=>hu (j+1) o'' (by omega) (by simpa using ho)),hd]
     simp [Kt.get_put]
   | succ j=>
     rw [Qr (j:=j) (o:=o) (by simpa using h) hd (fun j' o'' hj ho=>hu (j'+1) o'' (by omega) (by simpa using ho)),show i+1+j=i+(j+1) by omega]
def fx (m:Nat→Nat) (i:Nat) (di:Option Nat) (lk:List Nat):List Oper→Nat→Bool
 | [],_=>true
 | o::r,j=>(Nat.beq i j||match o.dst with
   | none=>true
   | some d=>(match di with
     | some e=> !(Nat.beq e d)
     | none=>true)&&(!(Ec lk d)||(A4 (m i) j||A4 (m j) i)))&&fx m i di lk r (j+1)
def iX (m:Nat→Nat) (ops:Array Oper) (all:List Oper):List Oper→Nat→Bool
 | [],_=>true
 | o::r,i=>fx m i o.dst (o.looksAt ops) all 0&&iX m ops all r (i+1)
theorem ZE {m:Nat→Nat} {i:Nat} {di:Option Nat} {lk:List Nat}: ∀ {l:List Oper} {j0:Nat},fx m i di lk l j0=true→ ∀ (j:Nat) (o:Oper),l[j]? =some o→i ≠ j0+j→ ∀ d,o.dst=some d→di ≠ some d∧(d∈lk→A4 (m i) (j0+j)=true∨A4 (m (j0+j)) i=true)
 | [],_,_,j,o,ho,_,_,_=>by simp at ho
 | x::r,j0,h,j,o,ho,hne,d,hd=>by
   simp only [fx,Bool.and_eq_true]at h
   cases j with
   | zero=>
     simp at ho;subst ho
     have h1:=h.1
     simp only [Nat.add_zero]at hne ⊢
     simp only [hd,Bool.or_eq_true,Nat.beq_eq,Bool.and_eq_true,Bool.not_eq_true']at h1
     rcases h1 with q | ⟨q1,q2⟩
     ·exact absurd q hne
     ·refine⟨fun e=>?_,fun hm=>?_⟩
      ·rw [e]at q1;simp at q1
      ·rcases q2 with q | q
       ·rw [BQ.2 hm]at q;cases q
       ·exact q
   | succ j=>
     have:=ZE h.2 j o (by simpa using ho) (by omega) d hd
     rw [show j0+(j+1)=j0+1+j by omega]
     exact this
theorem ZF {m:Nat→Nat} {ops:Array Oper} {all:List Oper}: ∀ {l:List Oper} {i0:Nat},iX m ops all l i0=true→ ∀ (i:Nat) (o:Oper),l[i]? =some o→fx m (i0+i) o.dst (o.looksAt ops) all 0=true
 | [],_,_,i,o,ho=>by simp at ho
 | x::r,i0,h,i,o,ho=>by
   simp only [iX,Bool.and_eq_true]at h
   cases i with
   | zero=>simp at ho;subst ho;exact h.1
   | succ i=>
     have:=ZF h.2 i o (by simpa using ho)
     rw [show i0+(i+1)=i0+1+i by omega]
     exact this
def nK (n:Nat):List Oper→Bool
 | []=>true
 | o::r=>(match o.dst with
   | some d=>Nat.blt d n
   | none=>true)&&nK n r
theorem fy {n:Nat}: ∀ {l:List Oper},nK n l=true→ ∀ (i:Nat) (o:Oper) (d:Nat),l[i]? =some o→o.dst=some d→d<n
 | [],_,i,o,d,ho,_=>by simp at ho
 | x::r,h,i,o,d,ho,hd=>by
   simp only [nK,Bool.and_eq_true]at h
   cases i with
   | zero=>simp at ho;subst ho;have:=h.1;rw [hd]at this;simpa using this
   | succ i=>exact fy h.2 i o d (by simpa using ho) hd
def pN (ops:Array Oper):Option (Kt Nat×Kt Nat):=
 match Qn ops.toList 0&&iX (kmk' (NL ops.toList 0 .lf)) ops ops.toList ops.toList 0 with
 | true=>some (NL ops.toList 0 .lf,me ops.toList 0 .lf)
 | false=>none
def mf (D:KD) (N:Nat) (m:Nat→Nat) (j p:Nat):Bool:=(List.range N).all fun k=>match D.kd k with
 | .ch =>(!(A4 (m j) k)||Nat.blt (D.qi k) p)&&(!(A4 (m k) j)||Nat.ble p (D.qi k))
 | _=>true
def WT (P:Program) (gs:List (Nat×List Kc)) (ops:Array Oper) (m:Nat→Nat) (dm:Kt Nat) (c0:Nat) (tm:Kt Kv) (D:KD):List Oper→Nat→Bool
 | [],_=>true
 | o::r,j=>(match D.kd j with
   | .ld =>(List.range (D.M+1)).all fun p=> !(mf D ops.size m j p)||match lZ P gs (D.U c0 (A4 (m j)) p) (Ct dm (m j) tm D.V (o.looksAt ops)) o.op with
     | some v=>pK v (D.V j)
     | none=>false
   | .ch =>(List.range j).all fun i=>match D.kd i with
     | .ch =>A4 (m j) i
     | _=>true
   | _=>true)&&WT P gs ops m dm c0 tm D r (j+1)
def fA (P:Program) (X:KX) (gs:List (Nat×List Kc)) (rec:QS) (n:Nat) (ops:Array Oper) (tm:Kt Kv) (h:Kt Ke) (c:Nat):Option KR:=match pN ops with
 | some (mt,dm)=>match nK n ops.toList with
   | true=>match mK P X gs rec ops (kmk' mt) dm c tm ops.toList 0 ⟨.lf, .lf, .lf,(Kt.lf).put 0 (some (h,c+ops.size,0)),0,[]⟩with
     | some s=>match WT P gs ops (kmk' mt) dm c tm s.D ops.toList 0 with
       | true=>some (WQ s.D.V ops.toList 0 tm,s.D.U c (fun _=>true) s.p,s.D.Cn s.p)
       | false=>none
     | none=>none
   | false=>none
 | none=>none
section
variable {P:Program} {X:KX} {gs:List (Nat×List Kc)} {rec:QS} {ops:Array Oper} {n c:Nat} {tm:Kt Kv} {h:Kt Ke} {F:KF}
theorem Qs {m:Nat→Nat} {dm:Kt Nat} {D:KD}: ∀ {l:List Oper} {j0:Nat},WT P gs ops m dm c tm D l j0=true→ ∀ (j:Nat) (o:Oper),l[j]? =some o→
 (D.kd (j0+j)= .ld → ∀ p,p≤D.M→(∀ k,k<ops.size→D.kd k= .ch →(A4 (m (j0+j)) k=true→D.qi k<p)∧(A4 (m k) (j0+j)=true→p≤D.qi k))→lZ P gs (D.U c (A4 (m (j0+j))) p) (Ct dm (m (j0+j)) tm D.V (o.looksAt ops)) o.op=some (D.V (j0+j)))∧
 (D.kd (j0+j)= .ch → ∀ i,i<j0+j→D.kd i= .ch →A4 (m (j0+j)) i=true)
 | [],_,_,j,o,ho=>by simp at ho
 | x::r,j0,hh,j,o,ho=>by
   simp only [WT,Bool.and_eq_true]at hh
   cases j with
   | zero=>
     simp at ho;subst ho
     simp only [Nat.add_zero]
     have h1:=hh.1
     refine⟨fun hk p hp hw=>?_,fun hk i hi hc=>?_⟩
     ·rw [hk]at h1
      simp only [List.all_eq_true,List.mem_range,Bool.or_eq_true,Bool.not_eq_true']at h1
      rcases h1 p (by omega)with q | q
      ·exfalso
       have:mf D ops.size m j0 p=true:=by
        simp only [mf,List.all_eq_true,List.mem_range]
        intro k hkk
        split
        ·rename_i hck
         obtain⟨w1,w2⟩:=hw k hkk hck
         simp only [Bool.and_eq_true,Bool.or_eq_true,Bool.not_eq_true',Nat.blt_eq,Nat.ble_eq]
         constructor
         ·cases hb:A4 (m j0) k with
          | false=>exact .inl rfl
          | true=>exact .inr (w1 hb)
         ·cases hb:A4 (m k) j0 with
          | false=>exact .inl rfl
          | true=>exact .inr (w2 hb)
        ·rfl
       rw [this]at q;cases q
      ·split at q
       ·rename_i v hv;rw [hv,ma q]
       ·cases q
     ·rw [hk]at h1
      simp only [List.all_eq_true,List.mem_range]at h1
      have:=h1 i hi
      rw [hc]at this
      exact this
   | succ j=>
     have:=Qs hh.2 j o (by simpa using ho)
     rw [show j0+(j+1)=j0+1+j by omega]
     exact this
theorem bO {mt dm:Kt Nat} (hs:pN ops=some (mt,dm)) (hl:nK n ops.toList=true) {s:Gl} (hd:mK P X gs rec ops (kmk' mt) dm c tm ops.toList 0 ⟨.lf, .lf, .lf,(Kt.lf).put 0 (some (h,c+ops.size,0)),0,[]⟩=some s) (hp:WT P gs ops (kmk' mt) dm c tm s.D ops.toList 0=true):
 Yr P X gs rec ops (kmk' mt) dm n c tm h s.D:=by
 unfold pN at hs
 split at hs
 ·rename_i hb
  simp only [Bool.and_eq_true]at hb
  simp only [Option.some.injEq,Prod.mk.injEq]at hs
  obtain⟨rfl,rfl⟩:=hs
  have hm:=iU hb.1
  have pre:bM (kmk' (NL ops.toList 0 .lf)) 0 ⟨.lf, .lf, .lf,(Kt.lf).put 0 (some (h,c+ops.size,0)),0,[]⟩:=
   ⟨fun _ _=>rfl,fun _ _ q=>by simp at q,by simp,fun j e=>by simp [Gl.D,Mz,Kt.get_lf],fun j q=>by simp [Gl.D,Mz,Kt.get_lf]at q,fun p q=>by simp at q,fun j k q=>by simp [Gl.D,Mz,Kt.get_lf]at q,fun j q=>by simp [Gl.D,Mz,Kt.get_lf]at q⟩
  obtain⟨k1,k2,k3⟩:=fw (dm:=me ops.toList 0 .lf) hm ops.toList 0 _ s (by simp) pre hd
  have hN:0+ops.toList.length=ops.size:=by simp
  rw [hN]at k1
  have hdst: ∀ (i j:Nat) (oi oj:Oper),ops[i]? =some oi→ops[j]? =some oj→i ≠ j→ ∀ d,oj.dst=some d→oi.dst ≠ some d∧(d∈oi.looksAt ops→A4 (kmk' (NL ops.toList 0 .lf) i) j=true∨A4 (kmk' (NL ops.toList 0 .lf) j) i=true):=fun i j oi oj hi hj hne d hd'=>by
   have q1:=ZF hb.2 i oi (by simpa using hi)
   have q2:=ZE q1 j oj (by simpa using hj) (by omega) d hd'
   simpa using q2
  have h0:s.hs.get 0=some (h,c+ops.size,0):=by
   rw [k2.hs 0 (Nat.le_refl _)]
   simp [Kt.get_put]
  refine⟨hm,hdst,fun x j=>⟨fun hq=>?_,fun⟨o,ho,hox⟩=>?_⟩,fun i o d ho hd'=>fy hl i o d (by simpa using ho) hd',fun i o ho=>⟨?_⟩,k1.mkn,fun i e=>?_,fun i hi hc=>(k1.clt i hc).2,fun p hp'=>?_,fun i j hi hj hci hcj hq=>?_,fun i j hi hj hci hcj hq=>?_,?_,fun i hi hc=>k1.abS i hc,?_,?_⟩
  ·by_cases hex: ∃ (j':Nat) (o':Oper),ops[j']? =some o'∧o'.dst=some x
   ·obtain⟨j',o',h1,h2⟩:=hex
    have:=Qr (l:=ops.toList) (i:=0) (t:= .lf) (s:=x) (j:=j') (o:=o') (by simpa using h1) h2 (fun j2 o2 hne ho2=>(hdst j2 j' o2 o' (by simpa using ho2) h1 hne x h2).1)
    rw [this]at hq
    injection hq with hq
    have:j'=j:=by omega
    subst this
    exact⟨o',h1,h2⟩
   ·have:=Qq (l:=ops.toList) (i:=0) (t:= .lf) (s:=x) (fun j' o' ho' e=>hex ⟨j',o',by simpa using ho',e⟩)
    rw [this]at hq
    simp [Kt.get_lf]at hq
  ·have:=Qr (l:=ops.toList) (i:=0) (t:= .lf) (s:=x) (j:=j) (o:=o) (by simpa using ho) hox (fun j2 o2 hne ho2=>(hdst j2 j o2 o (by simpa using ho2) ho hne x hox).1)
   simpa using this
  ·obtain⟨g,g1,g2,g3⟩:=k3 i o (Nat.zero_le _) ho
   have hpo:=Qs hp i o (by simpa using ho)
   simp only [Nat.zero_add]at hpo
   exact⟨g,g1,g2,fun q=>⟨(g3 q).1,hpo.1,(g3 q).2.1,(g3 q).2.2⟩⟩
  ·show (i,e)∈s.mks↔_
   rw [k1.mkm]
   exact⟨fun q=>⟨k1.mlt i e ((k1.mkm i e).2 q),q⟩,fun q=>q.2⟩
  ·obtain⟨j,q1,q2⟩:=k1.chs p hp'
   exact⟨j,(k1.clt j q1).1,q1,q2⟩
  ·have hij:i<j:=by
    rcases Nat.lt_trichotomy i j with q | q | q
    ·exact q
    ·subst q;omega
    ·have:=k1.mono j i hcj hci q;omega
   have hoj:ops[j]? =some ops[j]:=by simp [hj]
   have hpo:=Qs hp j ops[j] (by simp [hj])
   simp only [Nat.zero_add]at hpo
   exact hpo.2 hcj i hij hci
  ·rcases Nat.lt_trichotomy i j with q | q | q
   ·have:=k1.mono i j hci hcj q;omega
   ·exact q
   ·have:=k1.mono j i hcj hci q;omega
  ·simp only [Gl.D,Mz,h0]
  ·simp only [Gl.D,Mz,h0]
  ·simp only [Gl.D,Mz,h0]
 ·cases hs
def QU (N:Nat) (L:Array Bool):List Nat:=(List.range N).filter fun i=> !(L.getD i false)
theorem fB {N:Nat} {L:Array Bool} {i:Nat} (hL:L.size=N) (hi:i<N) (hun:L.getD i false=false):(QU N (L.setIfInBounds i true)).length +1=(QU N L).length :=by
 have h1:QU N (L.setIfInBounds i true)=(QU N L).erase i:=by
  have hnd:(QU N L).Nodup :=List.Nodup.sublist List.filter_sublist List.nodup_range
  rw [hnd.erase_eq_filter]
  unfold QU
  rw [List.filter_filter]
  refine List.filter_congr fun j hj=>?_
  by_cases e:j=i
  ·subst e;rw [CC (by omega)];simp
  ·rw [AZ e];simp [e]
 have h2:i∈QU N L:=List.mem_filter.2 ⟨List.mem_range.2 hi,by rw [hun];rfl⟩
 rw [h1,List.length_erase_of_mem h2]
 have:=List.length_pos_of_mem h2
 omega
theorem HK.more {c c':Nat} {w:World} {G:Kg} (hc:c≤c') (hk:HK F c h w G):HK F c' h w G:=⟨hk.ent,hk.inj,hk.new,fun i hi=>hk.fr i (by omega),hk.inv,hk.out,hk.hsize,hk.ext⟩
theorem HK.heq {c:Nat} {w w':World} {G:Kg} (hk:HK F c h w G) (hh:w'.heap=w.heap) (ho:Dc w w'):HK F c h w' G:=
 ⟨fun i e q=>by
  obtain⟨b,T,cur,fz,k⟩:=hk.ent i e q
  exact⟨b,T,cur,fz,by rw [hh];exact k⟩,hk.inj,hk.new,hk.fr,hk.inv,SG hk.out ho,by rw [hh];exact hk.hsize,by rw [hh];exact hk.ext⟩
theorem iY (hX:QT P F.I X) (hgt:Ur F.I gs) (hrec:Lp P F.I rec) {m:Nat→Nat} {dm:Kt Nat} {D:KD} (hy:Yr P X gs rec ops m dm n c tm h D) {G0:Kg} {w0:World} {Q:Exit→Act→World→Prop}
 (hQ: ∀ a w G,b9 F n h c G0 w0 (WQ D.V ops.toList 0 tm) (D.U c (fun _=>true) D.M) (D.Cn D.M) a w G→Q .normal a w):
 ∀ (fuel:Nat) (L:Array Bool) (p:Nat) (a:Act) (w:World) (G:Kg),Lr ops m dm n c tm h D F G0 w0 L p a w G→(QU ops.size L).length ≤fuel→wpAny P .any ops Q fuel L a w:=by
 have fin: ∀ (L:Array Bool) (p:Nat) (a:Act) (w:World) (G:Kg),Lr ops m dm n c tm h D F G0 w0 L p a w G→(∀ i,i<ops.size→L.getD i false=true)→Q .normal a w:=fun L p a w G hi hall=>by
  have hpM:p=D.M:=by
   rcases Nat.lt_or_ge p D.M with q | q
   ·obtain⟨k,hk,hck,hqk⟩:=hy.chs p q
    have:=(hi.pc k hk hck).1 (hall k hk)
    omega
   ·have:=hi.pM;omega
  subst hpM
  have hU:D.U c (fun j=>L.getD j false) D.M=D.U c (fun _=>true) D.M:=by
   unfold KD.U Ux
   congr 2
   refine List.filter_congr fun x hx=>?_
   simp only
   rw [hall x.1 ((hy.mkm x.1 x.2).1 hx).1]
  refine hQ a w G (.of (by rw [←hU];exact hi.hk) ⟨hi.dfr,hi.sz,fun s=>?_⟩ (by rw [←hU];exact hi.st) hi.kp (by have:=hi.cle;omega))
  have h1:=hi.sl s
  have h2:gt (WQ D.V ops.toList 0 tm) s=match dm.get s with
   | some j=>D.V j
   | none=>gt tm s:=by
   cases hd:dm.get s with
   | none=>
     refine My fun j o ho e=>?_
     have:=(hy.dmk s j).2 ⟨o,by simpa using ho,e⟩
     rw [hd]at this;cases this
   | some j=>
     obtain⟨o,ho,hos⟩:=(hy.dmk s j).1 hd
     have:=SP (V:=D.V) (l:=ops.toList) (i:=0) (t:=tm) (j:=j) (o:=o) (by simpa using ho) hos (fun j2 o2 hne ho2=>(hy.dst j2 j o2 o (by simpa using ho2) ho hne s hos).1)
     simpa using this
  rw [h2]
  cases hd:dm.get s with
  | none=>rw [hd]at h1;exact h1
  | some j=>
    obtain⟨o,ho,hos⟩:=(hy.dmk s j).1 hd
    rw [hd]at h1
    simp only [hall j (Array.getElem?_eq_some_iff.1 ho).1]at h1
    exact h1
 intro fuel
 induction fuel with
 | zero=>
   intro L p a w G hi hl
   have hall: ∀ i,i<ops.size→L.getD i false=true:=fun i hlt=>by
    cases q:L.getD i false with
    | true=>rfl
    | false=>
      have:i∈QU ops.size L:=List.mem_filter.2 ⟨List.mem_range.2 hlt,by rw [q];rfl⟩
      have:=List.length_pos_of_mem this
      omega
   refine⟨?_,fin L p a w G hi hall⟩
   cases hr:Region.ready .any ops L with
   | nil=>rfl
   | cons i r=>
     obtain⟨o,ho,hun,_⟩:=Uw hy.hm hi.d (i:=i) (by rw [hr];simp)
     rw [hall i (Array.getElem?_eq_some_iff.1 ho).1]at hun;cases hun
 | succ fuel ih=>
   intro L p a w G hi hl
   refine⟨fun hr=>fin L p a w G hi (Yq hy.hm hi.d.1 hr),fun i hr=>?_⟩
   obtain⟨o,ho,hun,_⟩:=Uw hy.hm hi.d hr
   refine wpOp_mono (fun a' w' ⟨p',G',hi'⟩=>ih _ p' a' w' G' hi' ?_) (fu hX hgt hrec hy hi hr)
   have:=fB hi.d.1 (Array.getElem?_eq_some_iff.1 ho).1 hun
   omega
theorem fC (hfol:P.follows .mixedOrders =true) (hX:QT P F.I X) (hgt:Ur F.I gs) (hrec:Lp P F.I rec) {id:Nat} {a:Act} {w:World} {G:Kg} (hk:HK F c h w G) (hsk:SK n tm a G) {tm':Kt Kv} {h':Kt Ke} {c':Nat} (hs:fA P X gs rec n ops tm h c=some (tm',h',c')):
 (Code.region id ops true).wp P (fun e a' w'=>e= .normal ∧ ∃ G',b9 F n h c G w tm' h' c' a' w' G') a w:=by
 unfold fA at hs
 split at hs
 ·rename_i mt dm hst
  split at hs
  ·rename_i hl
   split at hs
   ·rename_i s hd
    split at hs
    ·rename_i hp
     simp only [Option.some.injEq,Prod.mk.injEq]at hs
     obtain⟨rfl,rfl,rfl⟩:=hs
     have hy:=bO hst hl hd hp
     refine wp_region_any hfol ?_
     have hk1:HK F c h {w with drawn:=w.drawn+1} G:=hk.heq rfl ⟨rfl,rfl,rfl⟩
     have hU:s.D.U c (fun j=>(Array.replicate ops.size false).getD j false) 0=h:=by
      unfold KD.U Ux
      have:(s.D.mks.filter fun x=>(Array.replicate ops.size false).getD x.1 false&& !(A4 (s.D.ab 0) x.1))=[]:=by
       refine List.filter_eq_nil_iff.2 fun x _=>?_
       simp [Array.getD_eq_getD_getElem?,Array.getElem?_replicate]
       intro q
       split at q<;>simp_all
      rw [this]
      exact hy.H0
     have hL: ∀ j,(Array.replicate ops.size false).getD j false=false:=fun j=>by
      simp [Array.getD_eq_getD_getElem?,Array.getElem?_replicate]
      split<;>simp
     have hinv:Lr ops (kmk' mt) dm n c tm h s.D F G w (Array.replicate ops.size false) 0 a {w with drawn:=w.drawn+1} G:=by
      refine⟨⟨by simp,fun k q=>by rw [hL]at q;cases q⟩,Nat.zero_le _,fun k _ _=>by rw [hL];simp,?_,by rw [hy.C0];exact Nat.le_refl _,fun j _ _=>hk.fr (c+j) (by omega),fun j e _ _=>?_,fun j q=>?_,fun x=>?_,hsk.size,hsk.dfr,?_,Kp.refl c G⟩
      ·rw [hU,hy.C0];exact hk1.more (by omega)
      ·rw [hy.H0]
       cases q:h.get (c+j)with
       | none=>rfl
       | some d=>
         obtain⟨b,_,_,_,_,r,_⟩:=hk.ent _ _ q
         rw [(hk.fr (c+j) (by omega)).1]at r;cases r
      ·rw [hy.ab0]at q;simp [A4]at q
      ·have:=hsk.sl x
       split
       ·rw [hL];exact this
       ·exact this
      ·rw [hU]
       exact⟨Kg.le.refl G,Nat.le_refl _,fun _ _ _=>rfl,fun i e b q1 q2=> .inr ⟨i,e,q1,q2⟩,⟨rfl,rfl,rfl⟩,rfl⟩
     refine iY hX hgt hrec hy (fun a' w' G' ht=>⟨rfl,G',ht⟩) ops.size _ 0 a _ G hinv ?_
     have:(QU ops.size (Array.replicate ops.size false)).length ≤(List.range ops.size).length :=List.length_filter_le _ _
     simpa using this
    ·cases hs
   ·cases hs
  ·cases hs
 ·cases hs
end
end
end Go.PL
namespace Go.PL
open Go Go.RowKit
noncomputable section
abbrev KE:=Exit×Kt Kv×Kt Ke×Nat
def ZG (body:Kt Kv→Kt Ke→Nat→Option KE):Nat→Kt Kv→Kt Ke→Nat→Option KE
 | 0,_,_,_=>none
 | k+1,tm,h,c=>match body tm h c with
   | some (e,tm',h',c')=>match e with
     | .normal =>ZG body k tm' h' c'
     | e=>some (e,tm',h',c')
   | none=>none
def iZ (r:Option KR):Option KE:=match r with
 | some (tm,h,c)=>some (.normal,tm,h,c)
 | none=>none
def Ys (P:Program) (X:KX) (rec:QS) (tm:Kt Kv) (h:Kt Ke) (c:Nat) (g:Operand):Option KE:=match E5 tm g with
 | .c (.f f fi ca)=>match fk P X rec h c f (fi.map Kv.c++(.c .u ::ca.map Kv.c))with
   | some (_,h',c')=>some (.normal,tm,h',c')
   | none=>none
 | _=>none
theorem bP {P:Program} {I:World→Prop} {X:KX} {rec:QS} {n:Nat} {g:Operand} {ps:Array Tmp} {assign body:Code} {tm:Kt Kv} {h:Kt Ke} {c:Nat} {e:Exit} {tm':Kt Kv} {h':Kt Ke} {c':Nat} (hX:QT P I X) (hrec:Lp P I rec)
 (hs:Ys P X rec tm h c g=some (e,tm',h',c')):GP P I (.rangeFunc g ps assign body) n tm h c e tm' h' c':=by
 intro F a w G hI hk hsk
 subst hI
 unfold Ys at hs
 split at hs
 ·rename_i f fi ca hx
  split at hs
  ·rename_i v h1 c1 hi
   simp only [Option.some.injEq,Prod.mk.injEq]at hs
   obtain⟨rfl,rfl,rfl,rfl⟩:=hs
   have hev:=hsk.ev g
   rw [hx]at hev
   obtain⟨xs,ys,e1,k1,k2⟩:=hev
   have hargs:Hr G (fi.map Kv.c++(.c .u ::ca.map Kv.c)) (xs++ #[Value.func (.yield (w.heap.size+1)) #[] #[]]++ys).toList :=by
    have q:Hr G (.c .u ::ca.map Kv.c) (Value.func (.yield (w.heap.size+1)) #[] #[]::ys.toList):=⟨_,_,rfl,rfl,Hr.ofL k2⟩
    have:=(Hr.ofL k1).append q
    simpa using this
   refine wpIn_wide.1 (wpIn_rangeFunc (F:=Fence.wide) (n:=0) fun fn _=>?_)
   have hb:Below w.heap.size w ((w.alloc (.deferred (some []))).alloc (.loop {state:= .ready,pending:=none,fn,tmps:=a.tmps,params:=ps,assign,body,defers:=w.heap.size})):=((Below.refl _ _).alloc (Nat.le_refl _) _).alloc (by simp) _
   generalize hw1:((w.alloc (.deferred (some []))).alloc (.loop {state:= .ready,pending:=none,fn,tmps:=a.tmps,params:=ps,assign,body,defers:=w.heap.size}))=w1 at hb
   have hsz:w1.heap.size=w.heap.size+2:=by rw [←hw1,World.size_alloc,World.size_alloc]
   have hd0:w1.heap[w.heap.size]? =some (.deferred (some [])):=by
    rw [←hw1,Lib.alloc_old _ _ _ (by rw [World.size_alloc];omega)];exact World.alloc_heap_new _ _
   have hl0:w1.heap[w.heap.size+1]? =some (.loop {state:= .ready,pending:=none,fn,tmps:=a.tmps,params:=ps,assign,body,defers:=w.heap.size}):=by
    rw [←hw1]
    have q:=World.alloc_heap_new (w.alloc (.deferred (some []))) (.loop {state:= .ready,pending:=none,fn,tmps:=a.tmps,params:=ps,assign,body,defers:=w.heap.size})
    rw [World.size_alloc]at q;exact q
   obtain⟨hk1,hst1⟩:=bI hk hb
   obtain⟨f1,f2⟩:=Us hX hrec hk1 hargs hi
   have hun: ∀ r,w.heap.size≤r→ ∀ i d,h.get i=some d→G.blk i ≠ some r:=fun r hr i d hi q=>by
    have:=hk.lt hi q;omega
   refine⟨w.heap.size+1,[WG w.heap.size],w1,{target:= .fn (.func f) ys,args:=xs++ #[.func (.yield (w.heap.size+1)) #[] #[]]},w1,f,_,w1,?_,?_,fun _ _=>trivial,?_,by simp [Fence.wide],callsIn_wide.2 (f2.mono fun e w3 ⟨u,he,G',b1,b2,b3,b4,b5⟩=>?_)⟩
   ·rw [←hw1];exact run_enterLoop_outer ..
   ·have q:(#[Operand.const (.func (.yield (w.heap.size+1)) #[] #[])]:Array Operand).map a.eval= #[Value.func (.yield (w.heap.size+1)) #[] #[]]:=by simp [Act.eval]
    simp only [resolve,rangeCall,q,e1];rfl
   ·simp [invoke,run_callFunc' f1]
   ·subst he
    have hw3:=hst1.trans b2
    have hl3:w3.heap[w.heap.size+1]? =some (.loop {state:= .ready,pending:=none,fn,tmps:=a.tmps,params:=ps,assign,body,defers:=w.heap.size}):=(b2.frm _ (by omega) (hun _ (by omega))).trans hl0
    have hd3:w3.heap[w.heap.size]? =some (.deferred (some [])):=(b2.frm _ (by omega) (hun _ (by omega))).trans hd0
    have hs3:w1.heap.size≤w3.heap.size:=b2.size
    have hun3: ∀ r,w.heap.size≤r→r<w1.heap.size→ ∀ i d,h1.get i=some d→G'.blk i ≠ some r:=fun r hr hr2 i d hi q=>by
     rcases b2.own i d r hi q with z | ⟨j,d',z1,z2⟩
     ·omega
     ·exact hun r hr j d' z1 z2
    refine⟨none,_,run_endLoop hl3 (by simp),?_⟩
    have hk3:=(b1.poke (.loop {state:= .exhausted,pending:=none,fn,tmps:=a.tmps,params:=ps,assign,body,defers:=w.heap.size}) (hun3 (w.heap.size+1) (by omega) (by omega)) (by have:=hk.hsize;omega)).dd (WG w.heap.size::G.df)
    have hq3:=hw3.q.poke (.loop {state:= .exhausted,pending:=none,fn,tmps:=a.tmps,params:=ps,assign,body,defers:=w.heap.size}) (r:=w.heap.size+1) (by omega)
    refine⟨rfl,G'.dd (WG w.heap.size::G.df),hk3,⟨by simp [hsk.dfr,Kg.dd],hsk.size,fun i=>((hsk.sl i).mono b2.le).mono (G'.le_dd _)⟩,⟨⟨hq3.le.blk,hq3.le.cap⟩,hq3.size,hq3.frm,hq3.own,hq3.out⟩,b4,b5,[w.heap.size],by simp,rfl,fun r hr=>?_⟩
    simp only [List.mem_singleton]at hr
    subst hr
    exact⟨Nat.le_refl _,by simp;omega,by rw [World.putObj_heap_other (by omega)];exact hd3,hun3 _ (by omega) (by omega)⟩
  ·cases hs
 ·cases hs
def CK (P:Program) (X:KX) (gs:List (Nat×List Kc)) (rec:QS) (n:Nat):Code→Kt Kv→Kt Ke→Nat→Option KE
 | .skip,tm,h,c=>some (.normal,tm,h,c)
 | .ret,tm,h,c=>some (.ret,tm,h,c)
 | .exit j,tm,h,c=>some (.exit j,tm,h,c)
 | .label _,tm,h,c=>some (.normal,tm,h,c)
 | .scope x,tm,h,c=>match CK P X gs rec n x tm h c with
   | some (e,r)=>match e with
     | .normal =>some (.normal,r)
     | .ret =>some (.ret,r)
     | .exit j=>some (.exit j,r)
     | _=>none
   | none=>none
 | .block j x,tm,h,c=>match CK P X gs rec n x tm h c with
   | some (e,r)=>match e with
     | .exit i=>match Nat.beq i j with
       | true=>some (.normal,r)
       | false=>some (.exit i,r)
     | e=>some (e,r)
   | none=>none
 | .cond x a b,tm,h,c=>match E5 tm x with
   | .c (.b q)=>match q with
     | true=>CK P X gs rec n a tm h c
     | false=>CK P X gs rec n b tm h c
   | _=>none
 | .seq a b,tm,h,c=>match CK P X gs rec n a tm h c with
   | some (e,tm',h',c')=>match e with
     | .normal =>CK P X gs rec n b tm' h' c'
     | e=>some (e,tm',h',c')
   | none=>none
 | .region _ ops dr,tm,h,c=>match dr with
   | false=>iZ (bJ P X gs rec n ops ops.toList tm h c)
   | true=>iZ (fA P X gs rec n ops tm h c)
 | .loop x,tm,h,c=>ZG (CK P X gs rec n x) 100000 tm h c
 | .rangeFunc g _ _ _,tm,h,c=>Ys P X rec tm h c g
 | _,_,_,_=>none
section
variable {P:Program} {I:World→Prop} {X:KX} {gs:List (Nat×List Kc)} {rec:QS} {n:Nat}
theorem GP.here {code:Code} {tm:Kt Kv} {h:Kt Ke} {c:Nat} {e:Exit} (hw: ∀ (a:Act) (w:World) (Q:Exit→Act→World→Prop),Q e a w→code.wp P Q a w):GP P I code n tm h c e tm h c:=fun _ a w G _ hk hsk=>
 hw a w _ ⟨rfl,G, .of hk hsk (C9.refl h G w) (Kp.refl c G) (Nat.le_refl _)⟩
theorem WU {x:Code} (hx: ∀ tm h c e tm' h' c',CK P X gs rec n x tm h c=some (e,tm',h',c')→GP P I x n tm h c e tm' h' c'): ∀ (k:Nat) (tm:Kt Kv) (h:Kt Ke) (c:Nat) (e:Exit) (tm':Kt Kv) (h':Kt Ke) (c':Nat),ZG (CK P X gs rec n x) k tm h c=some (e,tm',h',c')→
 ∀ (F:KF) (a:Act) (w:World) (G:Kg),F.I=I→HK F c h w G→SK n tm a G→Code.rounds P x (fun e' a' w'=>e'=e∧ ∃ G',b9 F n h c G w tm' h' c' a' w' G') k a w
 | 0,tm,h,c,e,tm',h',c',hs,F,a,w,G,hI,hk,hsk=>by cases hs
 | k+1,tm,h,c,e,tm',h',c',hs,F,a,w,G,hI,hk,hsk=>by
   simp only [ZG]at hs
   split at hs
   ·rename_i e1 tm1 h1 c1 hb
    unfold Code.rounds
    refine Code.wp_mono (fun e2 a2 w2 ⟨q,G2,ht⟩=>?_) (hx tm h c e1 tm1 h1 c1 hb F a w G hI hk hsk)
    subst q
    cases e2<;>simp only [Exit.then]at hs ⊢
    case normal=>
     have ih:=WU hx k tm1 h1 c1 e tm' h' c' hs F a2 w2 G2 hI ht.hk ht.sk
     have mono: ∀ (k:Nat) (Q Q':Exit→Act→World→Prop) (hq: ∀ e a w,Q e a w→Q' e a w) (a:Act) (w:World),Code.rounds P x Q k a w→Code.rounds P x Q' k a w:=by
      intro k
      induction k with
      | zero=>intro Q Q' hq a w hh;exact hh
      | succ k ih=>
        intro Q Q' hq a w hh
        unfold Code.rounds at hh ⊢
        refine Code.wp_mono (fun e a w hh=>?_) hh
        cases e<;>simp only [Exit.then]at hh ⊢ <;>first
         | exact ih Q Q' hq a w hh
         | exact hq _ _ _ hh
     exact mono k _ _ (fun e3 a3 w3 ⟨q,G3,ht3⟩=>⟨q,G3,ht.trans ht3⟩) a2 w2 ih
    all_goals
     simp only [Option.some.injEq,Prod.mk.injEq]at hs
     obtain⟨rfl,rfl,rfl,rfl⟩:=hs
     exact⟨rfl,G2,ht⟩
   ·cases hs
theorem E6 (hfol:P.follows .mixedOrders =true) (hX:QT P I X) (hgt:Ur I gs) (hrec:Lp P I rec): ∀ (code:Code) (tm:Kt Kv) (h:Kt Ke) (c:Nat) (e:Exit) (tm':Kt Kv) (h':Kt Ke) (c':Nat),CK P X gs rec n code tm h c=some (e,tm',h',c')→GP P I code n tm h c e tm' h' c'
 | .skip,tm,h,c,e,tm',h',c',hs=>by
   simp only [CK,Option.some.injEq,Prod.mk.injEq]at hs
   obtain⟨rfl,rfl,rfl,rfl⟩:=hs
   exact GP.here fun _ _ _ q=>wp_skip q
 | .ret,tm,h,c,e,tm',h',c',hs=>by
   simp only [CK,Option.some.injEq,Prod.mk.injEq]at hs
   obtain⟨rfl,rfl,rfl,rfl⟩:=hs
   exact GP.here fun _ _ _ q=>wp_ret q
 | .exit j,tm,h,c,e,tm',h',c',hs=>by
   simp only [CK,Option.some.injEq,Prod.mk.injEq]at hs
   obtain⟨rfl,rfl,rfl,rfl⟩:=hs
   exact GP.here fun _ _ _ q=>wp_exit q
 | .label j,tm,h,c,e,tm',h',c',hs=>by
   simp only [CK,Option.some.injEq,Prod.mk.injEq]at hs
   obtain⟨rfl,rfl,rfl,rfl⟩:=hs
   exact GP.here fun _ _ _ q=>wp_label q
 | .scope x,tm,h,c,e,tm',h',c',hs=>by
   simp only [CK]at hs
   split at hs
   ·rename_i e1 r hr
    obtain⟨tm1,h1,c1⟩:=r
    have ih:=E6 hfol hX hgt hrec x tm h c e1 tm1 h1 c1 hr
    intro F a w G hI hk hsk
    refine wp_scope_straight (Code.wp_mono (fun e2 a2 w2 ⟨q,G2,ht⟩=>?_) (ih F a w G hI hk hsk))
    subst q
    cases e2<;>simp only [Exit.noGoto]at hs ⊢ <;>first
     | (cases hs;done)
     | (simp only [Option.some.injEq,Prod.mk.injEq]at hs
        obtain⟨rfl,rfl,rfl,rfl⟩:=hs
        exact⟨rfl,G2,ht⟩)
   ·cases hs
 | .block j x,tm,h,c,e,tm',h',c',hs=>by
   simp only [CK]at hs
   split at hs
   ·rename_i e1 r hr
    obtain⟨tm1,h1,c1⟩:=r
    have ih:=E6 hfol hX hgt hrec x tm h c e1 tm1 h1 c1 hr
    intro F a w G hI hk hsk
    refine wp_block (Code.wp_mono (fun e2 a2 w2 ⟨q,G2,ht⟩=>?_) (ih F a w G hI hk hsk))
    subst q
    cases e2<;>simp only [Exit.inBlock]at hs ⊢
    case exit i=>
     split at hs
     ·rename_i hb
      have hb:=Nat.eq_of_beq_eq_true hb
      subst hb
      simp only [Option.some.injEq,Prod.mk.injEq]at hs
      obtain⟨rfl,rfl,rfl,rfl⟩:=hs
      rw [if_pos rfl]
      exact⟨rfl,G2,ht⟩
     ·rename_i hb
      simp only [Option.some.injEq,Prod.mk.injEq]at hs
      obtain⟨rfl,rfl,rfl,rfl⟩:=hs
      rw [if_neg (fun q=>by subst q;simp at hb)]
      exact⟨rfl,G2,ht⟩
    all_goals
     simp only [Option.some.injEq,Prod.mk.injEq]at hs
     obtain⟨rfl,rfl,rfl,rfl⟩:=hs
     exact⟨rfl,G2,ht⟩
   ·cases hs
 | .cond x y z,tm,h,c,e,tm',h',c',hs=>by
   simp only [CK]at hs
   split at hs
   ·rename_i q hq
    intro F a w G hI hk hsk
    have hx:=hsk.ev x
    rw [hq]at hx
    simp only [KV,KC]at hx
    split at hs
    ·exact wp_cond_true hx (E6 hfol hX hgt hrec y tm h c e tm' h' c' hs F a w G hI hk hsk)
    ·exact wp_cond_false hx (E6 hfol hX hgt hrec z tm h c e tm' h' c' hs F a w G hI hk hsk)
   ·cases hs
 | .seq x y,tm,h,c,e,tm',h',c',hs=>by
   simp only [CK]at hs
   split at hs
   ·rename_i e1 tm1 h1 c1 hr
    have ih:=E6 hfol hX hgt hrec x tm h c e1 tm1 h1 c1 hr
    intro F a w G hI hk hsk
    refine wp_seq (Code.wp_mono (fun e2 a2 w2 ⟨q,G2,ht⟩=>?_) (ih F a w G hI hk hsk))
    subst q
    cases e2<;>simp only [Exit.then]at hs ⊢
    case normal=>
     exact Code.wp_mono (fun e3 a3 w3 ⟨q,G3,ht3⟩=>⟨q,G3,ht.trans ht3⟩) (E6 hfol hX hgt hrec y tm1 h1 c1 e tm' h' c' hs F a2 w2 G2 hI ht.hk ht.sk)
    all_goals
     simp only [Option.some.injEq,Prod.mk.injEq]at hs
     obtain⟨rfl,rfl,rfl,rfl⟩:=hs
     exact⟨rfl,G2,ht⟩
   ·cases hs
 | .region id ops dr,tm,h,c,e,tm',h',c',hs=>by
   simp only [CK]at hs
   intro F a w G hI hk hsk
   subst hI
   split at hs
   ·unfold iZ at hs
    split at hs
    ·rename_i tm1 h1 c1 hr
     simp only [Option.some.injEq,Prod.mk.injEq]at hs
     obtain⟨rfl,rfl,rfl,rfl⟩:=hs
     exact wp_region_list (Ut hX hgt hrec ops.toList tm h c a w G hk hsk hr fun a' w' G' ht=>⟨rfl,G',ht⟩)
    ·cases hs
   ·unfold iZ at hs
    split at hs
    ·rename_i tm1 h1 c1 hr
     simp only [Option.some.injEq,Prod.mk.injEq]at hs
     obtain⟨rfl,rfl,rfl,rfl⟩:=hs
     exact fC hfol hX hgt hrec hk hsk hr
    ·cases hs
 | .loop x,tm,h,c,e,tm',h',c',hs=>by
   simp only [CK]at hs
   intro F a w G hI hk hsk
   exact wp_loop_rounds 100000 (WU (fun tm h c e tm' h' c' q=>E6 hfol hX hgt hrec x tm h c e tm' h' c' q) 100000 tm h c e tm' h' c' hs F a w G hI hk hsk)
 | .rangeFunc ..,tm,h,c,e,tm',h',c',hs=>by
   simp only [CK]at hs
   exact bP hX hrec hs
 | .goto _,_,_,_,_,_,_,_,hs=>by simp [CK]at hs
 | .refuse _,_,_,_,_,_,_,_,hs=>by simp [CK]at hs
def mg (P:Program) (X:KX) (gs:List (Nat×List Kc)):Nat→QS
 | 0=>fun _ _ _ _ _=>none
 | k+1=>fun code n tm h c=>CK P X gs (mg P X gs k) n code tm h c
theorem ZH (hfol:P.follows .mixedOrders =true) (hX:QT P I X) (hgt:Ur I gs): ∀ k,Lp P I (mg P X gs k)
 | 0=>fun _ _ _ _ _ _ _ _ _ hs=>by cases hs
 | k+1=>fun code n tm h c e tm' h' c' hs=>E6 hfol hX hgt (ZH hfol hX hgt k) code tm h c e tm' h' c' hs
def mh (P:Program) (X:KX) (gs:List (Nat×List Kc)) (k:Nat) (f:FuncId) (args:List Kv):Option V:=match fk P X (mg P X gs k) .lf 0 f args with
 | some (v,_,_)=>WL v
 | none=>none
theorem mj (hst:Hz I) (hfol:P.follows .mixedOrders =true) (hX:QT P I X) (hgt:Ur I gs) {k:Nat} {f:FuncId} {args:List Kv} {xs:List V} {y:V} (ha:Ql args=some xs) (hs:mh P X gs k f args=some y) (he:ent P f=true):Bp P I f xs (· =y):=by
 unfold mh at hs
 split at hs
 ·rename_i v h' c' hi
  refine⟨he,fun w vs av hI hav hr=>?_⟩
  have hG:HK ⟨w,I⟩ 0 .lf w ⟨fun _=>none,fun _=>none,[]⟩:=
   ⟨(fun i e q=>by cases q),(fun i j e d b q=>by cases q),(fun i e b q=>by cases q),fun _ _=>⟨rfl,rfl⟩,fun w' h1 h2=>hst w w' hI h1 h2,jK w,Nat.le_refl _,fun _ _=>rfl⟩
  have hargs: ∀ (ys:List Kv) (xs:List V) (us:List Value),Ql ys=some xs→An w (im av) xs us→Hr ⟨fun _=>none,fun _=>none,[]⟩ ys us:=by
   intro ys
   induction ys with
   | nil=>
     intro xs us h1 h2
     simp only [Ql,Option.some.injEq]at h1
     subst h1
     simpa [An,Hr] using h2
   | cons y0 ys ih=>
     intro xs us h1 h2
     simp only [Ql]at h1
     split at h1
     ·rename_i x xs' e1 e2
      injection h1 with h1;subst h1
      simp only [An]at h2
      obtain⟨u,r,rfl,h3,h4⟩:=h2
      exact⟨u,r,rfl,(WM e1).2 h3,ih xs' r e2 h4⟩
     ·cases h1
  obtain⟨_,hc⟩:=Us (F:=⟨w,I⟩) hX (ZH hfol hX hgt k) hG (hargs args xs vs.toList ha hr) hi
  refine hc.mono fun e w' ⟨u,he',G',q1,q2,q3,_⟩=>⟨u,y,he',rfl,?_,(WM hs).1 q3,q1.out.os,q1.out.tape,q1.out.output,q1.hsize,q1.ext⟩
  unfold WL at hs
  split at hs<;>first
   | (injection hs with hs;subst hs;rfl)
   | cases hs
 ·cases hs
end
end
end Go.PL
namespace Go.PL
open Go
theorem FD {x:Int} (h0: -9223372036854775808≤x) (h1:x≤9223372036854775807):A3 x=x:=by
 grind [A3,IntKind.wrap_i64]
section
variable {σ ρ:Type} {B:σ→Option (σ⊕ρ)}
theorem ZI {n:Nat} {s s':σ} (h:B s=some (.inl s')):iter B (n+1) s=iter B n s':=by simp [iter,h]
theorem WV {n:Nat} {s:σ} {r:ρ} (h:B s=some (.inr r)):iter B (n+1) s=some r:=by simp [iter,h]
theorem WW {S:Nat→σ} {r:ρ} {j:Nat} (hs: ∀ i,i<j→B (S i)=some (.inl (S (i+1)))) (he:B (S j)=some (.inr r)): ∀ (k N i:Nat),i+k=j→k<N→iter B N (S i)=some r
 | 0,N+1,i,hi,_=>by obtain rfl:i=j:=by omega
                    exact WV he
 | k+1,N+1,i,hi,hN=>by rw [ZI (hs i (by omega))];exact WW hs he k N (i+1) (by omega) (by omega)
theorem Uz (S:Nat→σ) {r:ρ} (j:Nat) (hj:j<9223372036854775807) (hs: ∀ i,i<j→B (S i)=some (.inl (S (i+1)))) (he:B (S j)=some (.inr r)) {s0:σ} (h0:s0=S 0):iter B FU s0=some r:=by
 subst h0;exact WW hs he j FU 0 (by omega) hj
end
section
variable {α:Type} [Inhabited α] {l:List α} {i:Int}
theorem Qt (h:0≤i∧i<l.length):Gk l i=some (l.getD i.toNat default):=if_pos h
theorem N8 {k:Nat} (h:k<l.length):Gk l (k:Int)=some l[k]:=by
 grind [Qt]
end
theorem Qu {α:Type} {b:Nat} {l m:List α} (h:(l.length+m.length)*b≤140737488355328∧l.length+m.length≤maxLen):U3 b l m=some (l++m):=if_pos h
end Go.PL
namespace Go.PL
open Go Go.RowKit Go.WideShapes Go.ChangeShapes
def GQ (k:IntKind) (v:Int):Prop:=(Lit.int k v).wf =true
def jM (_:Bool):Prop:=True
def mL (v:List UInt8):Prop:=v.length≤reachBytes
def jN {α:Type} (b:Nat) (ok:α→Prop) (l:List α):Prop:=l.length*b≤reachBytes∧ ∀ y∈l,ok y
section
variable {P:Program} {t e:TypeId} {n:Nat} {cs:List C}
theorem dI {k:IntKind} (hu:P.underlying t=some (.int k)) (h:AU P n t cs): ∃ z,cs=eI k z∧GQ k z:=Z8 hu h
theorem dB (hu:P.underlying t=some .bool) (h:AU P n t cs): ∃ b,cs=eB b∧jM b:=Xj hu h
theorem dS (hu:P.underlying t=some .string) (h:AU P n t cs): ∃ s,cs=eS s∧mL s:=Z9 hu h
theorem dL {α:Type} {enc:α→List C} {ok:α→Prop} {b:Nat} (hu:P.underlying t=some (.slice e)) (hb:P.bytesOf e=b) (hd: ∀ {n ds},AU P n e ds→ ∃ x,ds=enc x∧ok x) (h:AU P n t cs):
 ∃ l:List α,cs=eL enc l∧jN b ok l:=ck hu hb (fun _ _=>hd) h
theorem dA {α:Type} {m:Nat} {enc:α→List C} {ok:α→Prop} (hu:P.underlying t=some (.array m e)) (hd: ∀ {n ds},AU P n e ds→ ∃ x,ds=enc x∧ok x) (h:AU P n t cs):
 ∃ l:List α,l.length=m∧cs=l.flatMap enc∧ ∀ y∈l,ok y:=by
 cases n with
 | zero=>exact h.elim
 | succ n=>
   simp only [AU,hu]at h
   obtain⟨Ch,rfl,h2,h3⟩:=h
   obtain⟨l,rfl,h5⟩:=OH (fun _=>hd) h3
   grind
end
section
variable {R:TypeId→List C→Prop}
theorem Aw {t:TypeId} {ts:List TypeId} {α β:Type} {e:α→List C} {E:β→List C} {ok:α→Prop} {OK:β→Prop} (hd: ∀ {ds},R t ds→ ∃ x,ds=e x∧ok x) (hr: ∀ {Ch},LR R ts Ch→ ∃ y,Ch.flatten=E y∧OK y) {Ch:List (List C)} (h:LR R (t::ts) Ch):
 ∃ p:α×β,Ch.flatten=e p.1++E p.2∧ok p.1∧OK p.2:=by
 simp only [LR]at h
 obtain⟨ds,r,rfl,h1,h2⟩:=h
 obtain⟨x,rfl,h3⟩:=hd h1
 obtain⟨y,h4,h5⟩:=hr h2
 exact⟨(x,y),by grind,h3,h5⟩
theorem GF {Ch:List (List C)} (h:LR R [] Ch): ∃ _:Unit,Ch.flatten=[]∧True:=by
 simp only [LR]at h
 simp_all
end
section
variable {H:Type} {enc:TypeId×Value→H} {P:Program} {W:World} {spare:Nat→Bool} {r:Reach} {base:Nat} {t:TypeId} {v:Value} {d:DataW H} {ps:List MemPlace}
theorem Yt {ts:List TypeId} {ds:List (DataW H)} (h:(DataW.weightsEach P (t::ts) (d::ds)).all (· ≤reachBytes)=true):(d.weights P t).all (· ≤reachBytes)=true∧(DataW.weightsEach P ts ds).all (· ≤reachBytes)=true:=by
 simp_all [DataW.weightsEach]
theorem i4 {α:Type} {e:α→List C} {ok:α→Prop} {fs:Array Field} (k:Nat) (hk:jg P k t=true) (hu:P.underlying t=some (.struct fs)) (hd: ∀ {n cs},AU P n t cs→ ∃ x,cs=e x∧ok x)
 (hv:Value.okWide P W r base t v) (h:DataW.Trod enc P W 0 spare true t v d ps) (hw:(d.weights P t).all (· ≤reachBytes)=true): ∃ x,ok x∧Ab W (im fun _=>False) (vA e x) v:=by
 obtain⟨arr,rfl,_⟩:=okWide_struct hu hv
 obtain⟨fuel,h⟩:=h
 obtain⟨cs,h1,h2,_⟩:=If (G:=im fun _=>False) (fun _ _ h=>h) k t hk fuel _ _ h hw
 obtain⟨x,rfl,h4⟩:=hd h2
 exact⟨x,h4,by simp only [Ab];exact⟨arr,rfl,h1⟩⟩
end
end Go.PL
namespace Go.PL
open Go
theorem bR {P:Program} {f:FuncId} {fn:Func} {s:ChangeSpec} {c:OpenClaim} (h0:(c.wf (OpenSpec.ofChange s))=true) (h1:(laidOutB P)=true) (h2:(mapsRowed P)=true) (h3:(fn.params.all (P.readableRec ·))=true) (h4:(namedTie P c.named s.vars)=true) (h5:((c.stops==[]))=true) (h6:((P.stops==[]))=true) (h7:((c.knobs==[]))=true) (h8:((P.stopKnobs==[]))=true) (h9:((c.inPlace==P.inPlace f))=true) (h10:((c.unfollowed==P.unfollowed f))=true) (h11:((c.recurses==P.recurses f))=true) (h12:((c.named==P.varsNamed f))=true) (h13:((c.maps==(fn.params.toList++s.plain.varTypes P).any (P.mapsRec ·)))=true) (h14:((c.ifaces==(fn.params.toList++s.plain.varTypes P).any (P.ifacesRec ·)))=true) (h15:((c.mapsOut==P.mapsAmong fn.resultTypes.toList))=true) (h16:((c.loops==(fn.params.toList++s.plain.varTypes P).any (P.loopsFrom ·)))=true) (h17:((c.wideKeys==(fn.params.toList++s.plain.varTypes P++fn.resultTypes.toList).any (P.wideKeysFrom ·)))=true) (h18:(s.vars.all (P.varReadable ·))=true) (h19:(fn.resultTypes.all (fun t=>P.readableRec t&&decide (t<P.types.size)))=true) (h20:((c.ifacesOut==fn.resultTypes.toList.any (P.ifacesRec ·)))=true) (h21:((c.loopsOut==fn.resultTypes.toList.any (P.loopsFrom ·)))=true) (h22:((c.plainKeys==P.plainKeys))=true) (h23:(c.shortTexts.isNone)=true) (h24:(P.stopsHeard)=true) (h25:(P.mayEnter)=true) (h26:((c.lifted==P.liftsFinal))=true) (h27:((P.make==some c.make))=true) (h28:(c.domain.isEmpty&&(c.kinds==[]))=true) (h29:((c.pinned==c.pinnedBy))=true) (h30:((c.veiled==(fn.params.toList++s.plain.varTypes P++fn.resultTypes.toList).any (P.veiledRec ·)))=true) (h31:(c.veiledFits P fn.params.toList (fn.params.toList++s.plain.varTypes P++fn.resultTypes.toList))=true):joinedFacts P f fn s c=true:=by
 simp_all [joinedFacts]
theorem bT {c:OpenClaim} {P:Program} (h:P.funcs.toList.any Func.goes=false):false=c.goesBy P:=by
 have hp: ∀ fn∈P.funcs.toList,fn.goes=false:=fun fn hm=>by
  have:=List.any_eq_false.1 h fn hm
  cases hq:fn.goes<;>simp_all
 have ha:P.funcs.any Func.goes=false:=by
  rw [←Array.any_toList];exact h
 have hg: ∀ f,P.goes f=false:=fun f=>by
  unfold Program.goes
  rw [ha,Bool.and_false,Bool.or_false,List.any_eq_false]
  intro g _
  cases hq:P.funcs[g]? with
  | none=>simp
  | some fn=>
    have:=hp fn (by have:=Array.mem_of_getElem? hq;simpa using this)
    simp [this]
 have hf: ∀ s,P.goesFrom s=false:=fun s=>by
  unfold Program.goesFrom
  cases P.funcNamed s with
  | none=>rfl
  | some f=>simp [hg]
 unfold OpenClaim.goesBy Program.goesAt
 rw [hf]
 cases c.start<;>simp [hg]
end Go.PL
namespace Go.PL
open Go
section
variable {H:Type} {enc:TypeId×Value→H}
theorem i5 {a:Assume} {C:Checked} {os:Os} {f:FuncId} {fn:Func} {s:ChangeSpec} {conds:List PathCond} {apart fresh handsOn again:Bool} {X:World→Array Value→Prop}
 (hX: ∀ (w w':World) (args:Array Value),w.heap=w'.heap→X w args→X w' args)
 (own:ownKnob C.prog.godebug=none) (started:os.Started) (noInit:C.prog.inits.idxOf? f=none) (hfn:C.prog.funcs[f]? =some fn)
 (witness: ∃ (w:World) (tape:Tape) (i:Input),w.os=os∧(w.forCall tape i).Shaped C.prog∧i.vars=[]∧Input.okWide C.prog (w.forCall tape i) .any w.heap.size f i∧
  ((s.pre enc C.prog fn conds apart (w.forCall tape i).memory i.args∧X (w.forCall tape i).memory i.args)∧sizedMet enc C.prog fn (OpenSpec.ofChange s) apart (w.forCall tape i).memory i.args)∧a.holds C.prog (lone (Frame.enter C.prog f i.args .normal) [] (w.forCall tape i)))
 (contract: ∀ (W:World) (base:Nat) (args:Array Value) (ds gs:List (DataW H)) (before:List MemPlace),
  (∀ (j:Nat) t v,fn.params[j]? =some t→args[j]? =some v→Value.okWide C.prog W .any base t v)→
  DataW.Whole enc C.prog fn.params.toList s.vars apart W args.toList ds gs before→
  conds.all (PathCond.test C.prog ⟨fn.params.toList,ds,s.plain.varTypes C.prog,gs⟩)=true→
  (DataW.weightsEach C.prog (fn.params.toList++s.plain.varTypes C.prog) (ds++gs)).all (· ≤reachBytes)=true→X W args→W.ShapedOpen C.prog→
  a.holds C.prog (lone (Frame.enter C.prog f args .normal) [] W)→
  Calls C.prog f args W fun e W'=> ∃ v,e= .returned v∧s.post enc C.prog fn apart fresh handsOn again W args v W'):
 ReturnsInHanded a C os f .any (fun w args=>(s.pre enc C.prog fn conds apart w args∧X w args)∧sizedMet enc C.prog fn (OpenSpec.ofChange s) apart w args) (s.post enc C.prog fn apart fresh handsOn again):=by
 refine returnsInHanded_of_calls own started noInit witness ?_
 intro w tape i _ hsh _ hok hpre hholds
 obtain⟨_,_,_,fn',hfn',_,_,_,_,hval⟩:=hok
 have e:fn'=fn:=(by grind)
 subst e
 obtain⟨⟨⟨ds,gs,before,hw,hc⟩,hx⟩,hz⟩:=hpre
 have hw':=DataW.Whole.of_heap (w':=w.forCall tape i) (by rfl) hw
 refine(contract (w.forCall tape i) w.heap.size i.args ds gs before hval hw' hc (hz.weights hw) (hX _ _ _ (by rfl) hx) hsh hholds).mono fun e W' ⟨v,he,hp⟩=>?_
 grind [ChangeSpec.post_blind]
def UA {H:Type} (ss:List (List UInt8)):DataW H:= .agg (ss.map fun s=> .lit (.string s))
theorem QV {H:Type} {enc:TypeId×Value→H} {P:Program} {w:World} {base:Nat} {sp:Nat→Bool} {held:Bool} {fuel:Nat} {t e:TypeId} {n:Nat} {cs:List Value} {ss:List (List UInt8)} {p:List MemPlace}
 (ht:P.underlying t=some (.array n e)) (he:P.underlying e=some .string) (hce:P.cellsOf e=1) (hct:P.cellsOf t=n)
 (h:DataW.trod enc P w base sp held fuel t cs=some (UA ss,p)):cs=ss.map fun s=>Value.string ⟨s.toArray⟩:=by
 cases fuel with
 | zero=>simp [DataW.trod]at h
 | succ fuel=>
   simp only [DataW.trod,ht,hce,hct,Nat.mul_one]at h
   split at h
   ·rename_i hl
    obtain⟨xs,hm,hx⟩:=Option.map_eq_some_iff.1 h
    have hxs:xs.map (·.1)=ss.map fun s=>(DataW.lit (.string s):DataW H):=by
     simp_all [UA]
    have hxl:xs.length=n:=by simpa using Lib.mapM_length hm
    have hzl:ss.length=n:=by
     have:=congrArg List.length hxs
     grind
    apply List.ext_getElem?
    intro i
    by_cases hi:i<n
    ·obtain⟨b,hb,hf⟩:=Lib.mapM_at hm i i (by simp [hi])
     obtain⟨z,hc,rfl,_⟩:=DataW.trod_string he hf
     have h1:cs[i]? =some (.string z):=by
      have:=congrArg (·[0]?) hc
      grind
     have h2:(xs.map (·.1))[i]? =some (DataW.lit (.string z.data.toList):DataW H):=by simp [hb]
     simp_all
    grind
   ·cases h
theorem Lt {P:Program} {W:World} {name:String} {ss:List (List UInt8)} {rest:List (String×DataW Unit)} {g:Nat} {t e:TypeId} {n:Nat}
 (hg:P.globalNamed name=some g) (hty:(P.globals[g]?).map (·.type)=some t) (ht:P.underlying t=some (.array n e)) (he:P.underlying e=some .string) (hce:P.cellsOf e=1) (hct:P.cellsOf t=n)
 (h:laidMet P ((name,UA ss)::rest) W): ∃ T fz,W.heap[g]? =some (.cells (ss.map fun s=>Value.string ⟨s.toArray⟩).toArray T fz):=by
 obtain⟨ps,⟨g',t',cs,fuel,p,q,hg',ht',hvar,hd,_,_⟩,_⟩:=h
 obtain rfl:=Option.some.inj (hg.symm.trans hg')
 obtain rfl:=Option.some.inj (hty.symm.trans ht')
 have hc:=QV ht he hce hct hd
 simp only [World.var?,hg,Option.bind_some]at hvar
 split at hvar
 ·rename_i c T fz hh
  injection hvar with hv
  subst hv
  refine⟨T,fz,?_⟩
  rw [hh, ←hc]
 grind
end
end Go.PL
