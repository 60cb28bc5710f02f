/- The pure logic: Kq, Kr, Ks, Ku, PlPd, PlPx. -/
import Derived.Test.YtekonfaeacligaaGreatDoorTvtoKn
import Derived.Scope
import GoSem.ClaimSeven
import Derived.JoinedOf
import Derived.Handed
import Derived.LaidSub
import Derived.Lib.LaidTab
open Nat (le_refl eq_of_beq_eq_true lt_or_ge)
open Option.some (injEq)
open Bool (and_eq_true or_eq_true not_eq_true')
open List (mem_range mem_cons all_eq_true)
set_option linter.all false
namespace Go.PL
open Go Go.RowKit
noncomputable section
section
variable {P:Program} {X:KX} {gs:List (Nat×List Kc)} {rec:SS} {ops:Array Oper} {m:Nat->Nat} {dm:Kt Nat} {n c0:Nat} {tm:Kt Kv} {h:Kt Ke} {D:KD}
theorem aW (a b j:Nat):Be (a||| b) j=true↔Be a j=true\/Be b j=true:=by simp [Be,Nat.testBit_or]
theorem OG.quiet (hy:jO P X gs rec ops m dm n c0 tm h D) {F:KF} {G0 G:Kg} {w0 w:World} {L:Array Bool} {p:Nat} {a:Act} (hi:OG ops m dm n c0 tm h D F G0 w0 L p a w G) {i:Nat} {o:Oper} (ho:ops[i]? =some o) (hr:i∈Region.ready .any ops L) (hnm: ∀ e,D.kd i ≠ .mk e) (hnc:D.kd i ≠ .ch) {u:Value} (hu:KV G (D.V i) u):
 OG ops m dm n c0 tm h D F G0 w0 (L.setIfInBounds i true) p (a.put o.dst u) w G:=by
 obtain⟨s1,s2,s3⟩:=hi.slots hy ho (Kg.le.refl G) rfl hu;have hU: ∀ id e,(D.U c0 (fun j=>(L.setIfInBounds i true).getD j false) p).get id=some e↔(D.U c0 (fun j=>L.getD j false) p).get id=some e:=fun id e=>by
  rw [KD.U_get hy.mkn,KD.U_get hy.mkn];have key: ∀ j e',(j,e')∈D.mks->((L.setIfInBounds i true).getD j false=true↔L.getD j false=true):=fun j e' hj=>by have hk:=((hy.mkm j e').1 hj).2;rw [Bb (fun q=>hnm e' (by rw [<-q];exact hk))]
  refine or_congr (exists_congr fun j=>and_congr_right fun _=>and_congr_right fun hj=>and_congr_left fun _=>key j e hj) (and_congr_left fun _=>not_congr (exists_congr fun j=>exists_congr fun e'=>and_congr_right fun _=>and_congr_right fun hj=>and_congr_left fun _=>key j e' hj))
 refine⟨hi.d.set hy.hm hr,hi.pM,fun k hk hck=>?_,hi.hk.sub fun id e q=>(hU id e).1 q,hi.cle,fun j hj hor=>?_,hi.res,fun j hj=>?_,s1,s2,s3,?_,hi.kp⟩
 ·rw [Bb (fun q=>hnc (by rw [<-q];exact hck))];exact hi.pc k hk hck
 ·refine hi.und j hj (hor.imp (fun q=>?_) (fun q=>q));by_cases e:j=i
  ·subst e;rw [CU (by rw [hi.d.1];exact hj)]at q;cases q
  ·rw [Bb e]at q;exact q
 ·exact getD_set_true (hi.abL j hj)
 ·exact⟨hi.st.le,hi.st.size,hi.st.frm,fun id e b q=>hi.st.own id e b ((hU id e).1 q),hi.st.out,hi.st.df⟩
theorem OG.part (hy:jO P X gs rec ops m dm n c0 tm h D) {F:KF} {G0 G:Kg} {w0 w:World} {L:Array Bool} {p:Nat} {a:Act} (hi:OG ops m dm n c0 tm h D F G0 w0 L p a w G) {i:Nat} (aaT: ∀ j,Be (m i) j=true->L.getD j false=true):
 ∀ id e,(D.U c0 (Be (m i)) p).get id=some e->(D.U c0 (fun j=>L.getD j false) p).get id=some e:=fun id e q=>by
 rw [KD.U_get hy.mkn]at q ⊢;rcases q with ⟨j,h1,h2,h3,h4⟩ | ⟨h1,h2⟩
 ·exact .inl ⟨j,h1,h2,aaT j h3,h4⟩
 ·refine .inr ⟨fun⟨j,e',g1,g2,g3,g4⟩=>?_,h2⟩;have:=hi.res j e' g2 g4;rw [<-g1,h2]at this;cases this
theorem tl {F:KF} (hX:Qw P F.I X) (hgt:Sc F.I gs) (o_:Kx P F.I F.Y rec) (hy:jO P X gs rec ops m dm n c0 tm h D) {G0 G:Kg} {w0 w:World} {L:Array Bool} {p:Nat} {a:Act} (hi:OG ops m dm n c0 tm h D F G0 w0 L p a w G) {i:Nat} (hr:i∈Region.ready .any ops L) {Q:Exit->Act->World->Prop}:
 wpOp P ops Q i (fun a' w'=> ∃ p' G',OG ops m dm n c0 tm h D F G0 w0 (L.setIfInBounds i true) p' a' w' G') a w:=by
 obtain⟨o,ho,hun,aaT⟩:=aU hy.hm hi.d hr;have Tw:i<ops.size:=(Array.getElem?_eq_some_iff.1 ho).1;have hil:i<L.size:=by rw [hi.d.1];exact Tw
 have I_:=hi.view hy ho hun aaT;obtain⟨g,hg,hg0,hg1⟩:=(hy.ev i o ho).g;have hw:=jJ I_ hg;unfold wpOp;simp only [ho,hw];cases g with
 | false=>
   obtain⟨q1,q2⟩:=hg0 rfl;rw [if_neg (by simp)];exact⟨p,G,hi.quiet hy ho hr (fun e q=>by rw [q1]at q;cases q) (fun q=>by rw [q1]at q;cases q) (by rw [q2];rfl)⟩
 | true=>
   rw [if_pos rfl];left;obtain⟨k1,k2,k3,k4⟩:=hg1 rfl;cases hkd:D.kd i with
   | fl=>
     obtain⟨u,q1,q2⟩:=mG I_ (k1 hkd);exact Au (q2 w) ⟨p,G,hi.quiet hy ho hr (fun e q=>by rw [hkd]at q;cases q) (fun q=>by rw [hkd]at q;cases q) q1⟩
   | ld=>
     have anX: ∀ k,k<ops.size->D.kd k= .ch ->(Be (m i) k=true->D.qi k<p)/\(Be (m k) i=true->p<=D.qi k):=fun k hk hck=>⟨fun q=>(hi.pc k hk hck).1 (aaT k q),fun q=>by
      rcases lt_or_ge (D.qi k) p with r | r
      ·have:=(hi.pc k hk hck).2 r;rw [hi.d.2 k this i q]at hun;cases hun
      ·exact r⟩
     obtain⟨u,q1,q2⟩:=sU hgt (hi.hk.sub (hi.part hy aaT)) I_ (k2 hkd p hi.pM anX);exact Au q2 ⟨p,G,hi.quiet hy ho hr (fun e q=>by rw [hkd]at q;cases q) (fun q=>by rw [hkd]at q;cases q) q1⟩
   | mk e=>
     have adR:(i,e)∈D.mks:=(hy.mkm i e).2 ⟨Tw,hkd⟩;have aor:Be (D.ab p) i=false:=by
      cases hb:Be (D.ab p) i with
      | false=>rfl
      | true=>rw [hi.abL i hb]at hun;cases hun
     have alp:=hi.und i Tw (.inl hun);have ah4:(D.U c0 (fun j=>L.getD j false) p).get (c0+i)=none:=by
      cases hq:(D.U c0 (fun j=>L.getD j false) p).get (c0+i)with
      | none=>rfl
      | some d=>
        obtain⟨b,_,_,_,_,r,_⟩:=hi.hk.ent _ _ hq;rw [alp.1]at r;cases r
     obtain⟨u,w',G',q1,q2,q3,q4,q5,q6⟩:=sV (c':=D.Cn p) hi.hk I_ (by have:=hi.cle;omega) (le_refl _) alp ah4 (k3 e hkd);obtain⟨s1,s2,s3⟩:=hi.slots hy ho q3.le q3.df q4;have hU: ∀ id d,(D.U c0 (fun j=>(L.setIfInBounds i true).getD j false) p).get id=some d->((D.U c0 (fun j=>L.getD j false) p).put (c0+i) (some e)).get id=some d:=fun id d q=>by
      rw [Kt.get_put];rw [KD.U_get hy.mkn]at q;by_cases hid:id=c0+i
      ·rw [if_pos hid];rcases q with ⟨j,h1,h2,h3,h4⟩ | ⟨h1,h2⟩
       ·have:j=i:=by omega
        subst this;have:=((hy.mkm j d).1 h2).2;rw [hkd]at this;injection this with this;rw [this]
       ·exact absurd ⟨i,e,hid,adR,CU hil,aor⟩ h1
      ·rw [if_neg hid,KD.U_get hy.mkn];rcases q with ⟨j,h1,h2,h3,h4⟩ | ⟨h1,h2⟩
       ·have n_:j ≠ i:=fun e=>hid (by rw [h1,e]);rw [Bb n_]at h3;exact .inl ⟨j,h1,h2,h3,h4⟩
       ·exact .inr ⟨fun⟨j,e',g1,g2,g3,g4⟩=>h1 ⟨j,e',g1,g2,getD_set_true g3,g4⟩,h2⟩
     refine Au q1 ⟨p,G',hi.d.set hy.hm hr,hi.pM,fun k hk hck=>?_,q2.sub hU,hi.cle,fun j hj hor=>?_,hi.res,fun j hj=>getD_set_true (hi.abL j hj),s1,s2,s3,?_,?_⟩
     ·rw [Bb (fun q=>by rw [q,hkd]at hck;cases hck)];exact hi.pc k hk hck
     ·have n_:j ≠ i:=fun q=>by
       subst q;rcases hor with q | q
       ·rw [CU hil]at q;cases q
       ·exact q e hkd
      rw [(q5 (c0+j) (by omega)).1,(q5 (c0+j) (by omega)).2];exact hi.und j hj (hor.imp (fun q=>by rw [Bb n_]at q;exact q) fun q=>q)
     ·have t:=hi.st.trans q3;exact⟨t.le,t.size,t.frm,fun id d b q=>t.own id d b (hU id d q),t.out,t.df⟩
     ·intro id hid;rw [(q5 id (by omega)).1,(q5 id (by omega)).2];exact hi.kp id hid
   | ch=>
     have hqi:D.qi i=p:=by
      have h1: ¬D.qi i<p:=fun q=>by have:=(hi.pc i Tw hkd).2 q;rw [this]at hun;cases hun
      rcases lt_or_ge p (D.qi i)with q | q
      ·have hpM:p<D.M:=Nat.lt_trans q (hy.chq i Tw hkd);obtain⟨k,hk,hck,hqk⟩:=hy.chs p hpM;have hb:=hy.cho k i hk Tw hck hkd (by omega);have:=(hi.pc k hk hck).1 (aaT k hb);omega
      ·omega
     have IN:=k4 hkd;rw [hqi]at IN;have agV:=hi.part hy aaT;have hwp:=fk (Q:=Q) hX hgt o_ (hi.hk.sub agV) I_ IN;refine Oper.wp_mono (fun a' w' ⟨u,he,G',b1,b2,b3,b4,b5⟩=>?_) hwp;subst he;obtain⟨s1,s2,s3⟩:=hi.slots hy ho b2.le b2.df b3;have ajC:D.ab (p+1)=D.ab p||| m i:=by rw [<-hqi];exact hy.abS i Tw hkd
     have ac8: ∀ j,Be (D.ab (p+1)) j=false->Be (D.ab p) j=false/\Be (m i) j=false:=fun j hj=>by
      constructor
      ·cases hq:Be (D.ab p) j with
       | false=>rfl
       | true=>rw [ajC,(aW _ _ _).2 (.inl hq)]at hj;cases hj
      ·cases hq:Be (m i) j with
       | false=>rfl
       | true=>rw [ajC,(aW _ _ _).2 (.inr hq)]at hj;cases hj
     have extra: ∀ j e,(j,e)∈D.mks->L.getD j false=true->Be (D.ab (p+1)) j=false->(D.U c0 (fun j=>L.getD j false) p).get (c0+j)=some e/\(D.U c0 (Be (m i)) p).get (c0+j)=none:=fun j e hj hL hb=>by
      obtain⟨h1,h2⟩:=ac8 j hb;refine⟨(KD.U_get hy.mkn).2 (.inl ⟨j,rfl,hj,hL,h1⟩),?_⟩;cases hq:(D.U c0 (Be (m i)) p).get (c0+j)with
      | none=>rfl
      | some d=>
        rw [KD.U_get hy.mkn]at hq;rcases hq with ⟨j',g1,g2,g3,g4⟩ | ⟨g1,g2⟩
        ·have:j'=j:=by omega
         subst this;rw [h2]at g3;cases g3
        ·rw [hi.res j e hj h1]at g2;cases g2
     have an8: ∀ j e,(j,e)∈D.mks->Be (D.ab (p+1)) j=false->(D.Hp (p+1)).get (c0+j)=none:=fun j e hj hb=>by
      have hjl:=((hy.mkm j e).1 hj).1;cases hq:(D.Hp (p+1)).get (c0+j)with
      | none=>rfl
      | some d=>
        exfalso;obtain⟨b,_,_,_,_,r,_⟩:=b1.ent _ _ hq;have aeQ:=b4 (c0+j) (by have:=hi.cle;omega);cases hL:L.getD j false with
        | false=>
          have:=(hi.und j hjl (.inl hL)).1;rw [aeQ.1,this]at r;cases r
        | true=>
          obtain⟨x1,x2⟩:=extra j e hj hL hb;obtain⟨b',_,_,_,_,y1,_⟩:=hi.hk.ent _ _ x1;rw [aeQ.1,y1]at r;injection r with r;subst r;rcases b2.own _ _ b' hq (b2.le.blk _ _ y1)with z | ⟨j',d',z1,z2⟩
          ·have:=hi.hk.lt x1 y1;omega
          ·have:=hi.hk.inj (c0+j) j' e d' b' x1 (agV j' d' z1) y1 z2;rw [<-this,x2]at z1;cases z1
     obtain⟨t1,t2⟩:=hi.hk.join (U':=D.U c0 (fun j=>(L.setIfInBounds i true).getD j false) (p+1)) agV b1 b2 b4 fun id e q=>by
      rw [KD.U_get hy.mkn]at q;rcases q with ⟨j,h1,h2,h3,h4⟩ | ⟨h1,h2⟩
      ·have n_:j ≠ i:=fun e'=>by have:=((hy.mkm j e).1 h2).2;rw [e',hkd]at this;cases this
       rw [Bb n_]at h3;rw [h1];exact .inr (extra j e h2 h3 h4)
      ·exact .inl h2
     have hp1:p+1<=D.M:=by have:=hy.chq i Tw hkd;omega
     refine⟨p+1,G',hi.d.set hy.hm hr,hp1,fun k hk hck=>?_,t1,by have:=hi.cle;omega,fun j hj hor=>?_,an8,fun j hj=>?_,s1,s2,s3,hi.st.trans t2,hi.kp.trans b4 (by have:=hi.cle;omega)⟩
     ·by_cases e:k=i
      ·subst e;rw [CU hil];simp;omega
      ·rw [Bb e,hi.pc k hk hck];constructor
       ·omega
       ·intro q;have:D.qi k ≠ p:=fun q2=>e (hy.chi k i hk Tw hck hkd (by rw [q2,hqi]));omega
     ·have aeQ:=b4 (c0+j) (by have:=hi.cle;omega);rw [aeQ.1,aeQ.2];refine hi.und j hj ?_;by_cases e:j=i
      ·subst e;exact .inr fun e' q=>by rw [hkd]at q;cases q
      ·exact hor.imp (fun q=>by rw [Bb e]at q;exact q) fun q=>q
     ·rw [ajC,aW]at hj;rcases hj with q | q
      ·exact getD_set_true (hi.abL j q)
      ·exact getD_set_true (aaT j q)
end
end
end Go.PL
namespace Go.PL
open Go Go.RowKit
noncomputable section
def kzq:Value->Value->Bool
 | .pointer none, .pointer none=>true
 | .slice none 0 0, .slice none 0 0=>true
 | .nilIface, .nilIface =>true
 | .nilFunc, .nilFunc =>true
 | .map none, .map none=>true
 | _,_=>false
def kkq (a b:IntKind):Bool:=decide (a=b)
mutual
def mO:Kc->Kc->Bool
 | .i k n, .i k' n'=>kkq k k'&&decide (n=n')
 | .b x, .b y=>x==y
 | .s x, .s y=>x==y
 | .z x, .z y=>kzq x y
 | .p a b, .p c d=>Nat.beq a c&&Nat.beq b d
 | .l a b c d e, .l a' b' c' d' e'=>Nat.beq a a'&&(Nat.beq b b'&&(Nat.beq c c'&&(Nat.beq d d'&&Nat.beq e e')))
 | .e, .e =>true
 | .f f x y, .f g x' y'=>Nat.beq f g&&(fv x x'&&fv y y')
 | .g a b, .g c d=>Nat.beq a c&&Nat.beq b d
 | .u, .u =>true
 | _,_=>false
def fv:List Kc->List Kc->Bool
 | [],[]=>true
 | c::cs,d::ds=>mO c d&&fv cs ds
 | _,_=>false
end
def kvq:Kv->Kv->Bool
 | .c x, .c y=>mO x y
 | .a x, .a y=>fv x y
 | .sk, .sk =>true
 | .u, .u =>true
 | _,_=>false
theorem AaL {x y:Value} (h:kzq x y=true):x=y:=by unfold kzq at h;split at h<;>first | rfl | cases h
mutual
theorem tn: ∀ {x y:Kc},mO x y=true->x=y
 | .i k n,y,h=>by cases y<;>simp only [mO,and_eq_true,decide_eq_true_eq,kkq]at h<;>first | (rw [h.1,h.2];done) | cases h
 | .b x,y,h=>by cases y<;>simp only [mO,beq_iff_eq]at h<;>first | (rw [h];done) | cases h
 | .s x,y,h=>by cases y<;>simp only [mO,beq_iff_eq]at h<;>first | (rw [h];done) | cases h
 | .z x,y,h=>by cases y<;>simp only [mO]at h<;>first | (rw [AaL h];done) | cases h
 | .p a b,y,h=>by cases y<;>simp only [mO,and_eq_true]at h<;>first | (rw [eq_of_beq_eq_true h.1,eq_of_beq_eq_true h.2];done) | cases h
 | .l a b c d e,y,h=>by cases y<;>simp only [mO,and_eq_true]at h<;>first | (rw [eq_of_beq_eq_true h.1,eq_of_beq_eq_true h.2.1,eq_of_beq_eq_true h.2.2.1,eq_of_beq_eq_true h.2.2.2.1,eq_of_beq_eq_true h.2.2.2.2];done) | cases h
 | .e,y,h=>by cases y<;>simp only [mO]at h<;>first | rfl | cases h
 | .f f x z,y,h=>by cases y<;>simp only [mO,and_eq_true]at h<;>first | (rw [eq_of_beq_eq_true h.1,SU h.2.1,SU h.2.2];done) | cases h
 | .g a b,y,h=>by cases y<;>simp only [mO,and_eq_true]at h<;>first | (rw [eq_of_beq_eq_true h.1,eq_of_beq_eq_true h.2];done) | cases h
 | .y a,y,h=>by cases y<;>simp [mO]at h
 | .u,y,h=>by cases y<;>simp only [mO]at h<;>first | rfl | cases h
theorem SU: ∀ {x y:List Kc},fv x y=true->x=y
 | [],[],_=>rfl
 | [],_::_,h=>by simp [fv]at h
 | _::_,[],h=>by simp [fv]at h
 | c::cs,d::ds,h=>by simp only [fv,and_eq_true]at h;rw [tn h.1,SU h.2]
end
theorem AaM {x y:Kv} (h:kvq x y=true):x=y:=by
 cases x<;>cases y<;>simp only [kvq]at h<;>first
  | rfl
  | (rw [tn h];done)
  | (rw [SU h];done)
  | cases h
structure HI where
 vs:Kt Kv
 ks:Kt Ko
 qs:Kt Nat
 hs:Kt (Kt Ke×Nat×Nat)
 p:Nat
 mks:List (Nat×Ke)
def Qy {α:Type} (t:Kt α) (d:α) (i:Nat):α:=match t.get i with
 | some x=>x
 | none=>d
def HI.D (s:HI):KD:=⟨gt s.vs,Qy s.ks .fl,Qy s.qs 0,fun p=>(Qy s.hs (.lf,0,0) p).1,fun p=>(Qy s.hs (.lf,0,0) p).2.1,fun p=>(Qy s.hs (.lf,0,0) p).2.2,s.mks,s.p⟩
def kcl (op:Op):Nat:=match op with
 | .load .. =>1
 | .alloc _=>2
 | .box .. =>2
 | .buildSlice .. =>2
 | .makeSlice .. =>2
 | .store .. =>3
 | .call c=>match c.callee with
   | .builtin .append =>3
   | .builtin .clear =>3
   | .builtin .unsafeString =>3
   | .value _=>3
   | _=>0
 | _=>0
def kd1 (P:Program) (X:KX) (gs:List (Nat×List Kc)) (rec:SS) (ops:Array Oper) (m:Nat->Nat) (dm:Kt Nat) (c0:Nat) (tm:Kt Kv) (i:Nat) (o:Oper) (s:HI):Option HI:=
 match kgd (CJ dm (m i) tm (gt s.vs) (o.looksAt ops)) ops o with
 | none=>none
 | some false=>some ⟨s.vs.put i (some .sk),s.ks,s.qs,s.hs,s.p,s.mks⟩
 | some true=>match kcl o.op with
   | 0=>match Vx P (CJ dm (m i) tm (gt s.vs) (o.looksAt ops)) o.op with
     | some v=>some ⟨s.vs.put i (some v),s.ks,s.qs,s.hs,s.p,s.mks⟩
     | none=>none
   | 1=>match kld P gs (s.D.U c0 (Be (m i)) s.p) (CJ dm (m i) tm (gt s.vs) (o.looksAt ops)) o.op with
     | some v=>some ⟨s.vs.put i (some v),s.ks.put i (some .ld),s.qs,s.hs,s.p,s.mks⟩
     | none=>none
   | 2=>match kmk P (CJ dm (m i) tm (gt s.vs) (o.looksAt ops)) o.op (c0+i)with
     | some (e,v)=>some ⟨s.vs.put i (some v),s.ks.put i (some (.mk e)),s.qs,s.hs,s.p,(i,e)::s.mks⟩
     | none=>none
   | _=>match VA P X gs rec (CJ dm (m i) tm (gt s.vs) (o.looksAt ops)) (s.D.U c0 (Be (m i)) s.p) (s.D.Cn s.p) o.op with
     | some (v,h',c')=>some ⟨s.vs.put i (some v),s.ks.put i (some .ch),s.qs.put i (some s.p),s.hs.put (s.p+1) (some (h',c',s.D.ab s.p||| m i)),s.p+1,s.mks⟩
     | none=>none
def kds (P:Program) (X:KX) (gs:List (Nat×List Kc)) (rec:SS) (ops:Array Oper) (m:Nat->Nat) (dm:Kt Nat) (c0:Nat) (tm:Kt Kv):List Oper->Nat->HI->Option HI
 | [],_,s=>some s
 | o::r,i,s=>match kd1 P X gs rec ops m dm c0 tm i o s with
   | some s'=>kds P X gs rec ops m dm c0 tm r (i+1) s'
   | none=>none
structure Lr (i:Nat) (s s':HI):Prop where
 vs: ∀ j,j<i->s'.vs.get j=s.vs.get j
 ks: ∀ j,j<i->s'.ks.get j=s.ks.get j
 qs: ∀ j,j<i->s'.qs.get j=s.qs.get j
 hs: ∀ p,p<=s.p->s'.hs.get p=s.hs.get p
 pl:s.p<=s'.p
 mks: ∀ f:Nat×Ke->Bool,(∀ x,i<=x.1->f x=false)->s'.mks.filter f=s.mks.filter f
theorem Lr.refl (i:Nat) (s:HI):Lr i s s:=⟨fun _ _=>rfl,fun _ _=>rfl,fun _ _=>rfl,fun _ _=>rfl,le_refl _,fun _ _=>rfl⟩
theorem Lr.trans {i:Nat} {a b c:HI} (x:Lr i a b) (y:Lr (i+1) b c):Lr i a c:=
 ⟨fun j hj=>(y.vs j (by omega)).trans (x.vs j hj),fun j hj=>(y.ks j (by omega)).trans (x.ks j hj),fun j hj=>(y.qs j (by omega)).trans (x.qs j hj),
  fun p hp=>(y.hs p (Nat.le_trans hp x.pl)).trans (x.hs p hp),Nat.le_trans x.pl y.pl,fun f hf=>(y.mks f fun z hz=>hf z (by omega)).trans (x.mks f hf)⟩
structure pn (m:Nat->Nat) (i:Nat) (s:HI):Prop where
 ks: ∀ j,i<=j->s.ks.get j=none
 mlt: ∀ j e,(j,e)∈s.mks->j<i
 mkn:(s.mks.map (·.1)).Nodup
 mkm: ∀ j e,(j,e)∈s.mks↔s.D.kd j= .mk e
 clt: ∀ j,s.D.kd j= .ch ->j<i/\s.D.qi j<s.p
 chs: ∀ p,p<s.p-> ∃ j,s.D.kd j= .ch /\s.D.qi j=p
 mono: ∀ j k,s.D.kd j= .ch ->s.D.kd k= .ch ->j<k->s.D.qi j<s.D.qi k
 abS: ∀ j,s.D.kd j= .ch ->s.D.ab (s.D.qi j+1)=s.D.ab (s.D.qi j)||| m j
section
variable {P:Program} {X:KX} {gs:List (Nat×List Kc)} {rec:SS} {ops:Array Oper} {m:Nat->Nat} {dm:Kt Nat} {n c0:Nat} {tm:Kt Kv} {h:Kt Ke}
theorem RN {mi:Nat} {V V':Nat->Kv} (hv: ∀ j,Be mi j=true->V j=V' j): ∀ l:List Nat,CJ dm mi tm V l=CJ dm mi tm V' l
 | []=>rfl
 | s::r=>by
   simp only [CJ];rw [RN hv r];congr 2;unfold w4;split
   ·rename_i j _;split
    ·rename_i hb;rw [hv j hb]
    ·rfl
   ·rfl
theorem KD.U_ext {i:Nat} {s s':HI} (hx:Lr i s s') {f:Nat->Bool} (hf: ∀ j,f j=true->j<i) {p:Nat} (hp:p<=s.p):s'.D.U c0 f p=s.D.U c0 f p:=by
 have h1:Qy s'.hs (.lf,0,0) p=Qy s.hs (.lf,0,0) p:=by unfold Qy;rw [hx.hs p hp]
 unfold KD.U aV;simp only [HI.D,h1];rw [hx.mks _ fun x hx'=>by
  have:f x.1=false:=by
   cases q:f x.1 with
   | false=>rfl
   | true=>have:=hf x.1 q;omega
  simp [this]]
def AcT (P:Program) (X:KX) (gs:List (Nat×List Kc)) (rec:SS) (ops:Array Oper) (m:Nat->Nat) (dm:Kt Nat) (c0:Nat) (tm:Kt Kv) (D:KD) (i:Nat) (o:Oper):Prop:=
 ∃ g,kgd (CJ dm (m i) tm D.V (o.looksAt ops)) ops o=some g/\(g=false->D.kd i= .fl /\D.V i= .sk)/\(g=true->
   (D.kd i= .fl ->Vx P (CJ dm (m i) tm D.V (o.looksAt ops)) o.op=some (D.V i))/\
   (∀ e,D.kd i= .mk e->kmk P (CJ dm (m i) tm D.V (o.looksAt ops)) o.op (c0+i)=some (e,D.V i))/\
   (D.kd i= .ch ->VA P X gs rec (CJ dm (m i) tm D.V (o.looksAt ops)) (D.U c0 (Be (m i)) (D.qi i)) (D.Cn (D.qi i)) o.op=some (D.V i,D.Hp (D.qi i+1),D.Cn (D.qi i+1))))
theorem OH {β:Type} {t:Kt β} {i:Nat} {x:β} {d:β} {j:Nat}:Qy (t.put i (some x)) d j=if j=i then x else Qy t d j:=by
 unfold Qy;rw [Kt.get_put];by_cases q:j=i
 ·rw [if_pos q,if_pos q]
 ·rw [if_neg q,if_neg q]
theorem fw {β:Type} {t:Kt β} {d:β} {j:Nat} (h:t.get j=none):Qy t d j=d:=by unfold Qy;rw [h]
theorem AaN (hm:aT ops m) {i:Nat} {o:Oper} (ho:ops[i]? =some o) {s s1:HI} (hp:pn m i s) (h1:kd1 P X gs rec ops m dm c0 tm i o s=some s1):
 pn m (i+1) s1/\Lr i s s1/\(∀ s',Lr (i+1) s1 s'->AcT P X gs rec ops m dm c0 tm s'.D i o):=by
 have hki:=hp.ks i (le_refl i);have hb:=hm.back i o ho;have vx: ∀ v,Lr i s ⟨s.vs.put i (some v),s.ks,s.qs,s.hs,s.p,s.mks⟩:=fun v=>
  ⟨fun j hj=>by simp only [Kt.get_put];rw [if_neg (by omega)],fun _ _=>rfl,fun _ _=>rfl,fun _ _=>rfl,le_refl _,fun _ _=>rfl⟩
 have vp: ∀ v,pn m (i+1) ⟨s.vs.put i (some v),s.ks,s.qs,s.hs,s.p,s.mks⟩:=fun v=>
  ⟨fun j hj=>hp.ks j (by omega),fun j e he=>by have:=hp.mlt j e he;omega,hp.mkn,hp.mkm,fun j hj=>by have:=hp.clt j hj;exact⟨by omega,this.2⟩,hp.chs,hp.mono,hp.abS⟩
 have view: ∀ s',Lr i s s'->CJ dm (m i) tm s'.D.V (o.looksAt ops)=CJ dm (m i) tm (gt s.vs) (o.looksAt ops):=fun s' hx=>
  RN (fun j hj=>by simp only [HI.D,gt];rw [hx.vs j (hb j hj)]) _
 have uex: ∀ s',Lr i s s'->s'.D.U c0 (Be (m i)) s.p=s.D.U c0 (Be (m i)) s.p:=fun s' hx=>KD.U_ext hx hb (le_refl _);unfold kd1 at h1;split at h1
 ·cases h1
 ·rename_i hg;injection h1 with h1;subst h1;refine⟨vp _,vx _,fun s' hx=>⟨false,by rw [view s' ((vx _).trans hx)];exact hg,fun _=>⟨?_,?_⟩,(fun q=>by cases q)⟩⟩
  ·simp only [HI.D];exact fw (by rw [hx.ks i (by omega)];exact hki)
  ·simp only [HI.D,gt];rw [hx.vs i (by omega)];simp [Kt.get_put]
 ·rename_i hg;split at h1
  ·split at h1
   ·rename_i v hv;injection h1 with h1;subst h1;refine⟨vp _,vx _,fun s' hx=>⟨true,by rw [view s' ((vx _).trans hx)];exact hg,(fun q=>by cases q),fun _=>?_⟩⟩;have hk:s'.D.kd i= .fl :=by simp only [HI.D];exact fw (by rw [hx.ks i (by omega)];exact hki)
    have hV:s'.D.V i=v:=by simp only [HI.D,gt];rw [hx.vs i (by omega)];simp [Kt.get_put]
    refine⟨fun _=>by rw [view s' ((vx _).trans hx),hV];exact hv,fun e q=>(by rw [hk]at q;cases q),fun q=>(by rw [hk]at q;cases q)⟩
   ·cases h1
  ·split at h1
   ·rename_i v hv;injection h1 with h1;subst h1;have ex:Lr i s ⟨s.vs.put i (some v),s.ks.put i (some .ld),s.qs,s.hs,s.p,s.mks⟩:=
     ⟨fun j hj=>by simp only [Kt.get_put];rw [if_neg (by omega)],fun j hj=>by simp only [Kt.get_put];rw [if_neg (by omega)],fun _ _=>rfl,fun _ _=>rfl,le_refl _,fun _ _=>rfl⟩
    have kdi: ∀ j,(⟨s.vs.put i (some v),s.ks.put i (some .ld),s.qs,s.hs,s.p,s.mks⟩:HI).D.kd j=if j=i then .ld else s.D.kd j:=fun j=>by simp only [HI.D,OH]
    refine⟨⟨fun j hj=>by simp only [Kt.get_put];rw [if_neg (by omega)];exact hp.ks j (by omega),fun j e he=>by have:=hp.mlt j e he;omega,hp.mkn,fun j e=>?_,fun j hj=>?_,fun p hpp=>?_,fun j k hj hk=>?_,fun j hj=>?_⟩,ex,fun s' hx=>⟨true,by rw [view s' (ex.trans hx)];exact hg,(fun q=>by cases q),fun _=>?_⟩⟩
    ·rw [kdi];by_cases q:j=i
     ·rw [if_pos q];exact⟨fun r=>by have:=hp.mlt j e r;omega,fun r=>by cases r⟩
     ·rw [if_neg q];exact hp.mkm j e
    ·rw [kdi]at hj;by_cases q:j=i
     ·rw [if_pos q]at hj;cases hj
     ·rw [if_neg q]at hj;have:=hp.clt j hj;exact⟨by omega,this.2⟩
    ·obtain⟨j,q1,q2⟩:=hp.chs p hpp;exact⟨j,by rw [kdi,if_neg (fun e=>by have:=(hp.clt j q1).1;omega)];exact q1,q2⟩
    ·rw [kdi]at hj hk;by_cases q:j=i
     ·rw [if_pos q]at hj;cases hj
     ·by_cases r:k=i
      ·rw [if_pos r]at hk;cases hk
      ·rw [if_neg q]at hj;rw [if_neg r]at hk;exact hp.mono j k hj hk
    ·rw [kdi]at hj;by_cases q:j=i
     ·rw [if_pos q]at hj;cases hj
     ·rw [if_neg q]at hj;exact hp.abS j hj
    ·have hk:s'.D.kd i= .ld :=by simp only [HI.D,Qy];rw [hx.ks i (by omega)];simp [Kt.get_put]
     exact⟨fun q=>(by rw [hk]at q;cases q),fun e q=>(by rw [hk]at q;cases q),fun q=>(by rw [hk]at q;cases q)⟩
   ·cases h1
  ·split at h1
   ·rename_i e v hv;injection h1 with h1;subst h1;have ex:Lr i s ⟨s.vs.put i (some v),s.ks.put i (some (.mk e)),s.qs,s.hs,s.p,(i,e)::s.mks⟩:=
     ⟨fun j hj=>by simp only [Kt.get_put];rw [if_neg (by omega)],fun j hj=>by simp only [Kt.get_put];rw [if_neg (by omega)],fun _ _=>rfl,fun _ _=>rfl,le_refl _,fun f hf=>by simp [List.filter_cons,hf (i,e) (le_refl _)]⟩
    have kdi: ∀ j,(⟨s.vs.put i (some v),s.ks.put i (some (.mk e)),s.qs,s.hs,s.p,(i,e)::s.mks⟩:HI).D.kd j=if j=i then .mk e else s.D.kd j:=fun j=>by simp only [HI.D,OH]
    refine⟨⟨fun j hj=>by simp only [Kt.get_put];rw [if_neg (by omega)];exact hp.ks j (by omega),fun j d he=>?_,?_,fun j d=>?_,fun j hj=>?_,fun p hpp=>?_,fun j k hj hk=>?_,fun j hj=>?_⟩,ex,fun s' hx=>⟨true,by rw [view s' (ex.trans hx)];exact hg,(fun q=>by cases q),fun _=>?_⟩⟩
    ·rcases mem_cons.1 he with q | q
     ·injection q with q;omega
     ·have:=hp.mlt j d q;omega
    ·simp only [List.map_cons,List.nodup_cons];refine⟨fun q=>?_,hp.mkn⟩;obtain⟨x,hx,hxe⟩:=List.mem_map.1 q;have:=hp.mlt x.1 x.2 hx;omega
    ·rw [kdi];simp only [mem_cons,Prod.mk.injEq];by_cases q:j=i
     ·rw [if_pos q];constructor
      ·rintro(⟨_,r⟩ | r)
       ·rw [r]
       ·have:=hp.mlt j d r;omega
      ·intro r;injection r with r;exact .inl ⟨q,r.symm⟩
     ·rw [if_neg q, <-hp.mkm j d];simp [q]
    ·rw [kdi]at hj;by_cases q:j=i
     ·rw [if_pos q]at hj;cases hj
     ·rw [if_neg q]at hj;have:=hp.clt j hj;exact⟨by omega,this.2⟩
    ·obtain⟨j,q1,q2⟩:=hp.chs p hpp;exact⟨j,by rw [kdi,if_neg (fun e=>by have:=(hp.clt j q1).1;omega)];exact q1,q2⟩
    ·rw [kdi]at hj hk;by_cases q:j=i
     ·rw [if_pos q]at hj;cases hj
     ·by_cases r:k=i
      ·rw [if_pos r]at hk;cases hk
      ·rw [if_neg q]at hj;rw [if_neg r]at hk;exact hp.mono j k hj hk
    ·rw [kdi]at hj;by_cases q:j=i
     ·rw [if_pos q]at hj;cases hj
     ·rw [if_neg q]at hj;exact hp.abS j hj
    ·have hk:s'.D.kd i= .mk e:=by simp only [HI.D,Qy];rw [hx.ks i (by omega)];simp [Kt.get_put]
     have hV:s'.D.V i=v:=by simp only [HI.D,gt];rw [hx.vs i (by omega)];simp [Kt.get_put]
     refine⟨fun q=>(by rw [hk]at q;cases q),fun e' q=>?_,fun q=>(by rw [hk]at q;cases q)⟩;rw [hk]at q;injection q with q;subst q;rw [view s' (ex.trans hx),hV];exact hv
   ·cases h1
  ·split at h1
   ·rename_i v h' c' hv;injection h1 with h1;subst h1;have ex:Lr i s ⟨s.vs.put i (some v),s.ks.put i (some .ch),s.qs.put i (some s.p),s.hs.put (s.p+1) (some (h',c',s.D.ab s.p||| m i)),s.p+1,s.mks⟩:=
     ⟨fun j hj=>by simp only [Kt.get_put];rw [if_neg (by omega)],fun j hj=>by simp only [Kt.get_put];rw [if_neg (by omega)],fun j hj=>by simp only [Kt.get_put];rw [if_neg (by omega)],fun p hpp=>by simp only [Kt.get_put];rw [if_neg (by omega)],by simp,fun _ _=>rfl⟩
    have kdi: ∀ j,(⟨s.vs.put i (some v),s.ks.put i (some .ch),s.qs.put i (some s.p),s.hs.put (s.p+1) (some (h',c',s.D.ab s.p||| m i)),s.p+1,s.mks⟩:HI).D.kd j=if j=i then .ch else s.D.kd j:=fun j=>by simp only [HI.D,OH]
    have qsi: ∀ j,(⟨s.vs.put i (some v),s.ks.put i (some .ch),s.qs.put i (some s.p),s.hs.put (s.p+1) (some (h',c',s.D.ab s.p||| m i)),s.p+1,s.mks⟩:HI).D.qi j=if j=i then s.p else s.D.qi j:=fun j=>by simp only [HI.D,OH]
    have abi: ∀ p,(⟨s.vs.put i (some v),s.ks.put i (some .ch),s.qs.put i (some s.p),s.hs.put (s.p+1) (some (h',c',s.D.ab s.p||| m i)),s.p+1,s.mks⟩:HI).D.ab p=if p=s.p+1 then s.D.ab s.p||| m i else s.D.ab p:=fun p=>by
     simp only [HI.D,OH];by_cases q:p=s.p+1
     ·rw [if_pos q,if_pos q]
     ·rw [if_neg q,if_neg q]
    refine⟨⟨fun j hj=>by simp only [Kt.get_put];rw [if_neg (by omega)];exact hp.ks j (by omega),fun j e he=>by have:=hp.mlt j e he;omega,hp.mkn,fun j e=>?_,fun j hj=>?_,fun p hpp=>?_,fun j k hj hk hjk=>?_,fun j hj=>?_⟩,ex,fun s' hx=>⟨true,by rw [view s' (ex.trans hx)];exact hg,(fun q=>by cases q),fun _=>?_⟩⟩
    ·rw [kdi];by_cases q:j=i
     ·rw [if_pos q];exact⟨fun r=>by have:=hp.mlt j e r;omega,fun r=>by cases r⟩
     ·rw [if_neg q];exact hp.mkm j e
    ·rw [kdi]at hj;rw [qsi];by_cases q:j=i
     ·rw [if_pos q];exact⟨by omega,Nat.lt_succ_self _⟩
     ·rw [if_neg q]at hj ⊢;have:=hp.clt j hj;exact⟨by omega,Nat.lt_succ_of_lt this.2⟩
    ·by_cases q:p=s.p
     ·exact⟨i,by rw [kdi,if_pos rfl],by rw [qsi,if_pos rfl,q]⟩
     ·obtain⟨j,q1,q2⟩:=hp.chs p (by simp only at hpp;omega);have n_:j ≠ i:=fun e=>by have:=(hp.clt j q1).1;omega
      exact⟨j,by rw [kdi,if_neg n_];exact q1,by rw [qsi,if_neg n_];exact q2⟩
    ·rw [kdi]at hj hk;rw [qsi,qsi];by_cases r:k=i
     ·have q:j ≠ i:=by omega
      rw [if_neg q]at hj ⊢;rw [if_pos r];exact(hp.clt j hj).2
     ·rw [if_neg r]at hk ⊢;have:k<i:=(hp.clt k hk).1;have q:j ≠ i:=by omega
      rw [if_neg q]at hj ⊢;exact hp.mono j k hj hk hjk
    ·rw [kdi]at hj;rw [qsi];by_cases q:j=i
     ·rw [if_pos q,abi,if_pos rfl,abi,if_neg (by omega),q]
     ·rw [if_neg q]at hj ⊢;have:=(hp.clt j hj).2;rw [abi,abi,if_neg (by omega),if_neg (by omega)];exact hp.abS j hj
    ·have hk:s'.D.kd i= .ch :=by simp only [HI.D,Qy];rw [hx.ks i (by omega)];simp [Kt.get_put]
     have hV:s'.D.V i=v:=by simp only [HI.D,gt];rw [hx.vs i (by omega)];simp [Kt.get_put]
     have hq:s'.D.qi i=s.p:=by simp only [HI.D,Qy];rw [hx.qs i (by omega)];simp [Kt.get_put]
     refine⟨fun q=>(by rw [hk]at q;cases q),fun e' q=>(by rw [hk]at q;cases q),fun _=>?_⟩;have hx2:=ex.trans hx;have e1:s'.D.Cn s.p=s.D.Cn s.p:=by simp only [HI.D,Qy];rw [hx2.hs s.p (le_refl _)]
     have e2:s'.hs.get (s.p+1)=some (h',c',s.D.ab s.p||| m i):=by rw [hx.hs (s.p+1) (le_refl _)];simp [Kt.get_put]
     have e3:s'.D.Hp (s.p+1)=h':=by simp only [HI.D,Qy,e2]
     have e4:s'.D.Cn (s.p+1)=c':=by simp only [HI.D,Qy,e2]
     rw [view s' hx2,hV,hq,uex s' hx2,e1,e3,e4];exact hv
   ·cases h1
theorem tp (hm:aT ops m): ∀ (l:List Oper) (i:Nat) (s s':HI),ops.toList.drop i=l->pn m i s->kds P X gs rec ops m dm c0 tm l i s=some s'->
 pn m (i+l.length) s'/\Lr i s s'/\ ∀ j o,i<=j->ops[j]? =some o->AcT P X gs rec ops m dm c0 tm s'.D j o
 | [],i,s,s',hl,hp,h=>by simp only [kds,injEq]at h;subst h;refine⟨by simpa using hp,Lr.refl i s,fun j o hj ho=>?_⟩;have Tw:j<ops.size:=(Array.getElem?_eq_some_iff.1 ho).1;have:=congrArg List.length hl;simp at this;omega
 | o::r,i,s,s',hl,hp,h=>by
   simp only [kds]at h;split at h
   ·rename_i s1 h1;have hoi:ops[i]? =some o:=by have:=congrArg (fun l=>l[0]?) hl;simpa using this
    have hr:ops.toList.drop (i+1)=r:=by have:=congrArg (fun l=>l.drop 1) hl;simpa using this
    obtain⟨a1,a2,a3⟩:=AaN hm hoi hp h1;obtain⟨b1,b2,b3⟩:=tp hm r (i+1) s1 s' hr a1 h;refine⟨by rw [show i+(o::r).length =i+1+r.length by simp;omega];exact b1,a2.trans b2,fun j oj hj hoj=>?_⟩;by_cases q:j=i
    ·subst q;rw [hoi]at hoj;injection hoj with hoj;subst hoj;exact a3 s' b2
    ·exact b3 j oj (by omega) hoj
   ·cases h
end
end
end Go.PL
namespace Go.PL
open Go Go.RowKit
noncomputable section
def kdm:List Oper->Nat->Kt Nat->Kt Nat
 | [],_,t=>t
 | o::r,i,t=>kdm r (i+1) (match o.dst with
   | some d=>t.put d (some i)
   | none=>t)
theorem VE: ∀ {l:List Oper} {i:Nat} {t:Kt Nat} {s:Nat},(∀ (j:Nat) (o:Oper),l[j]? =some o->o.dst ≠ some s)->(kdm l i t).get s=t.get s
 | [],_,_,_,_=>rfl
 | o::r,i,t,s,h=>by
   simp only [kdm];rw [VE (fun j o' ho=>h (j+1) o' (by simpa using ho))];have h0:=h 0 o (by simp);cases hd:o.dst with
   | none=>rfl
   | some d=>simp only [Kt.get_put];rw [if_neg (fun e=>h0 (by rw [hd,e]))]
theorem VF: ∀ {l:List Oper} {i:Nat} {t:Kt Nat} {s j:Nat} {o:Oper},l[j]? =some o->o.dst=some s->(∀ (j':Nat) (o':Oper),j' ≠ j->l[j']? =some o'->o'.dst ≠ some s)->(kdm l i t).get s=some (i+j)
 | [],_,_,_,_,_,h,_,_=>by simp at h
 | o'::r,i,t,s,j,o,h,hd,hu=>by
   simp only [kdm];cases j with
   | zero=>
     simp at h;subst h;rw [VE (fun j o'' ho=>hu (j+1) o'' (by omega) (by simpa using ho)),hd];simp [Kt.get_put]
   | succ j=>
     rw [VF (j:=j) (o:=o) (by simpa using h) hd (fun j' o'' hj ho=>hu (j'+1) o'' (by omega) (by simpa using ho)),show i+1+j=i+(j+1) by omega]
def tq (m:Nat->Nat) (i:Nat) (di:Option Nat) (lk:List Nat):List Oper->Nat->Bool
 | [],_=>true
 | o::r,j=>(Nat.beq i j||match o.dst with
   | none=>true
   | some d=>(match di with
     | some e=> !(Nat.beq e d)
     | none=>true)&&(!(F7 lk d)||(Be (m i) j||Be (m j) i)))&&tq m i di lk r (j+1)
def w6 (m:Nat->Nat) (ops:Array Oper) (all:List Oper):List Oper->Nat->Bool
 | [],_=>true
 | o::r,i=>tq m i o.dst (o.looksAt ops) all 0&&w6 m ops all r (i+1)
theorem mP {m:Nat->Nat} {i:Nat} {di:Option Nat} {lk:List Nat}: ∀ {l:List Oper} {j0:Nat},tq m i di lk l j0=true-> ∀ (j:Nat) (o:Oper),l[j]? =some o->i ≠ j0+j-> ∀ d,o.dst=some d->di ≠ some d/\(d∈lk->Be (m i) (j0+j)=true\/Be (m (j0+j)) i=true)
 | [],_,_,j,o,ho,_,_,_=>by simp at ho
 | x::r,j0,h,j,o,ho,n_,d,hd=>by
   simp only [tq,and_eq_true]at h;cases j with
   | zero=>
     simp at ho;subst ho;have h1:=h.1;simp only [Nat.add_zero]at n_ ⊢;simp only [hd,or_eq_true,Nat.beq_eq,and_eq_true,not_eq_true']at h1;rcases h1 with q | ⟨q1,q2⟩
     ·exact absurd q n_
     ·refine⟨fun e=>?_,fun hm=>?_⟩
      ·rw [e]at q1;simp at q1
      ·rcases q2 with q | q
       ·rw [Dd.2 hm]at q;cases q
       ·exact q
   | succ j=>
     have:=mP h.2 j o (by simpa using ho) (by omega) d hd;rw [show j0+(j+1)=j0+1+j by omega];exact this
theorem mQ {m:Nat->Nat} {ops:Array Oper} {all:List Oper}: ∀ {l:List Oper} {i0:Nat},w6 m ops all l i0=true-> ∀ (i:Nat) (o:Oper),l[i]? =some o->tq m (i0+i) o.dst (o.looksAt ops) all 0=true
 | [],_,_,i,o,ho=>by simp at ho
 | x::r,i0,h,i,o,ho=>by
   simp only [w6,and_eq_true]at h;cases i with
   | zero=>simp at ho;subst ho;exact h.1
   | succ i=>
     have:=mQ h.2 i o (by simpa using ho);rw [show i0+(i+1)=i0+1+i by omega];exact this
def kdl (n:Nat):List Oper->Bool
 | []=>true
 | o::r=>(match o.dst with
   | some d=>Nat.blt d n
   | none=>true)&&kdl n r
theorem tu {n:Nat}: ∀ {l:List Oper},kdl n l=true-> ∀ (i:Nat) (o:Oper) (d:Nat),l[i]? =some o->o.dst=some d->d<n
 | [],_,i,o,d,ho,_=>by simp at ho
 | x::r,h,i,o,d,ho,hd=>by
   simp only [kdl,and_eq_true]at h;cases i with
   | zero=>simp at ho;subst ho;have:=h.1;rw [hd]at this;simpa using this
   | succ i=>exact tu h.2 i o d (by simpa using ho) hd
def kst (ops:Array Oper):Option (Kt Nat×Kt Nat):=
 match VB ops.toList 0&&w6 (kmk' (Sd ops.toList 0 .lf)) ops ops.toList ops.toList 0 with
 | true=>some (Sd ops.toList 0 .lf,kdm ops.toList 0 .lf)
 | false=>none
def AaP (D:KD) (N:Nat) (m:Nat->Nat) (j p:Nat):Bool:=(List.range N).all fun k=>match D.kd k with
 | .ch =>(!(Be (m j) k)||Nat.blt (D.qi k) p)&&(!(Be (m k) j)||Nat.ble p (D.qi k))
 | _=>true
def fx (P:Program) (gs:List (Nat×List Kc)) (ops:Array Oper) (m:Nat->Nat) (dm:Kt Nat) (c0:Nat) (tm:Kt Kv) (D:KD):List Oper->Nat->Bool
 | [],_=>true
 | o::r,j=>(match D.kd j with
   | .ld =>(List.range (D.M+1)).all fun p=> !(AaP D ops.size m j p)||match kld P gs (D.U c0 (Be (m j)) p) (CJ dm (m j) tm D.V (o.looksAt ops)) o.op with
     | some v=>kvq v (D.V j)
     | none=>false
   | .ch =>(List.range j).all fun i=>match D.kd i with
     | .ch =>Be (m j) i
     | _=>true
   | _=>true)&&fx P gs ops m dm c0 tm D r (j+1)
def tv (P:Program) (X:KX) (gs:List (Nat×List Kc)) (rec:SS) (n:Nat) (ops:Array Oper) (tm:Kt Kv) (h:Kt Ke) (c:Nat):Option KR:=match kst ops with
 | some (mt,dm)=>match kdl n ops.toList with
   | true=>match kds P X gs rec ops (kmk' mt) dm c tm ops.toList 0 ⟨.lf, .lf, .lf,(Kt.lf).put 0 (some (h,c+ops.size,0)),0,[]⟩with
     | some s=>match fx P gs ops (kmk' mt) dm c tm s.D ops.toList 0 with
       | true=>some (fu s.D.V ops.toList 0 tm,s.D.U c (fun _=>true) s.p,s.D.Cn s.p)
       | false=>none
     | none=>none
   | false=>none
 | none=>none
section
variable {P:Program} {X:KX} {gs:List (Nat×List Kc)} {rec:SS} {ops:Array Oper} {n c:Nat} {tm:Kt Kv} {h:Kt Ke} {F:KF}
theorem VG {m:Nat->Nat} {dm:Kt Nat} {D:KD}: ∀ {l:List Oper} {j0:Nat},fx P gs ops m dm c tm D l j0=true-> ∀ (j:Nat) (o:Oper),l[j]? =some o->
 (D.kd (j0+j)= .ld -> ∀ p,p<=D.M->(∀ k,k<ops.size->D.kd k= .ch ->(Be (m (j0+j)) k=true->D.qi k<p)/\(Be (m k) (j0+j)=true->p<=D.qi k))->kld P gs (D.U c (Be (m (j0+j))) p) (CJ dm (m (j0+j)) tm D.V (o.looksAt ops)) o.op=some (D.V (j0+j)))/\
 (D.kd (j0+j)= .ch -> ∀ i,i<j0+j->D.kd i= .ch ->Be (m (j0+j)) i=true)
 | [],_,_,j,o,ho=>by simp at ho
 | x::r,j0,hh,j,o,ho=>by
   simp only [fx,and_eq_true]at hh;cases j with
   | zero=>
     simp at ho;subst ho;simp only [Nat.add_zero];have h1:=hh.1;refine⟨fun hk p hp hw=>?_,fun hk i hi hc=>?_⟩
     ·rw [hk]at h1;simp only [all_eq_true,mem_range,or_eq_true,not_eq_true']at h1;rcases h1 p (by omega)with q | q
      ·exfalso;have:AaP D ops.size m j0 p=true:=by
        simp only [AaP,all_eq_true,mem_range];intro k hkk;split
        ·rename_i hck;obtain⟨w1,w2⟩:=hw k hkk hck;simp only [and_eq_true,or_eq_true,not_eq_true',Nat.blt_eq,Nat.ble_eq];constructor
         ·cases hb:Be (m j0) k with
          | false=>exact .inl rfl
          | true=>exact .inr (w1 hb)
         ·cases hb:Be (m k) j0 with
          | false=>exact .inl rfl
          | true=>exact .inr (w2 hb)
        ·rfl
       rw [this]at q;cases q
      ·split at q
       ·rename_i v hv;rw [hv,AaM q]
       ·cases q
     ·rw [hk]at h1;simp only [all_eq_true,mem_range]at h1;have:=h1 i hi;rw [hc]at this;exact this
   | succ j=>
     have:=VG hh.2 j o (by simpa using ho);rw [show j0+(j+1)=j0+1+j by omega];exact this
theorem po {mt dm:Kt Nat} (hs:kst ops=some (mt,dm)) (hl:kdl n ops.toList=true) {s:HI} (hd:kds P X gs rec ops (kmk' mt) dm c tm ops.toList 0 ⟨.lf, .lf, .lf,(Kt.lf).put 0 (some (h,c+ops.size,0)),0,[]⟩=some s) (hp:fx P gs ops (kmk' mt) dm c tm s.D ops.toList 0=true):
 jO P X gs rec ops (kmk' mt) dm n c tm h s.D:=by
 unfold kst at hs;split at hs
 ·rename_i hb;simp only [and_eq_true]at hb;simp only [injEq,Prod.mk.injEq]at hs;obtain⟨rfl,rfl⟩:=hs;have hm:=wZ hb.1;have pre:pn (kmk' (Sd ops.toList 0 .lf)) 0 ⟨.lf, .lf, .lf,(Kt.lf).put 0 (some (h,c+ops.size,0)),0,[]⟩:=
   ⟨fun _ _=>rfl,fun _ _ q=>by simp at q,by simp,fun j e=>by simp [HI.D,Qy,Kt.get_lf],fun j q=>by simp [HI.D,Qy,Kt.get_lf]at q,fun p q=>by simp at q,fun j k q=>by simp [HI.D,Qy,Kt.get_lf]at q,fun j q=>by simp [HI.D,Qy,Kt.get_lf]at q⟩
  obtain⟨k1,k2,k3⟩:=tp (dm:=kdm ops.toList 0 .lf) hm ops.toList 0 _ s (by simp) pre hd;have hN:0+ops.toList.length=ops.size:=by simp
  rw [hN]at k1;have abR: ∀ (i j:Nat) (oi oj:Oper),ops[i]? =some oi->ops[j]? =some oj->i ≠ j-> ∀ d,oj.dst=some d->oi.dst ≠ some d/\(d∈oi.looksAt ops->Be (kmk' (Sd ops.toList 0 .lf) i) j=true\/Be (kmk' (Sd ops.toList 0 .lf) j) i=true):=fun i j oi oj hi hj n_ d Y_=>by have q1:=mQ hb.2 i oi (by simpa using hi);have q2:=mP q1 j oj (by simpa using hj) (by omega) d Y_;simpa using q2
  have h0:s.hs.get 0=some (h,c+ops.size,0):=by rw [k2.hs 0 (le_refl _)];simp [Kt.get_put]
  refine⟨hm,abR,fun x j=>⟨fun hq=>?_,fun⟨o,ho,hox⟩=>?_⟩,fun i o d ho Y_=>tu hl i o d (by simpa using ho) Y_,fun i o ho=>⟨?_⟩,k1.mkn,fun i e=>?_,fun i hi hc=>(k1.clt i hc).2,fun p hp'=>?_,fun i j hi hj hci hcj hq=>?_,fun i j hi hj hci hcj hq=>?_,?_,fun i hi hc=>k1.abS i hc,?_,?_⟩
  ·by_cases hex: ∃ (j':Nat) (o':Oper),ops[j']? =some o'/\o'.dst=some x
   ·obtain⟨j',o',h1,h2⟩:=hex;have:=VF (l:=ops.toList) (i:=0) (t:= .lf) (s:=x) (j:=j') (o:=o') (by simpa using h1) h2 (fun j2 o2 n_ ho2=>(abR j2 j' o2 o' (by simpa using ho2) h1 n_ x h2).1);rw [this]at hq;injection hq with hq;have:j'=j:=by omega
    subst this;exact⟨o',h1,h2⟩
   ·have:=VE (l:=ops.toList) (i:=0) (t:= .lf) (s:=x) (fun j' o' ho' e=>hex ⟨j',o',by simpa using ho',e⟩);rw [this]at hq;simp [Kt.get_lf]at hq
  ·have:=VF (l:=ops.toList) (i:=0) (t:= .lf) (s:=x) (j:=j) (o:=o) (by simpa using ho) hox (fun j2 o2 n_ ho2=>(abR j2 j o2 o (by simpa using ho2) ho n_ x hox).1);simpa using this
  ·obtain⟨g,g1,g2,g3⟩:=k3 i o (Nat.zero_le _) ho;have hpo:=VG hp i o (by simpa using ho);simp only [Nat.zero_add]at hpo;exact⟨g,g1,g2,fun q=>⟨(g3 q).1,hpo.1,(g3 q).2.1,(g3 q).2.2⟩⟩
  ·show (i,e)∈s.mks↔_;rw [k1.mkm];exact⟨fun q=>⟨k1.mlt i e ((k1.mkm i e).2 q),q⟩,fun q=>q.2⟩
  ·obtain⟨j,q1,q2⟩:=k1.chs p hp';exact⟨j,(k1.clt j q1).1,q1,q2⟩
  ·have hij:i<j:=by
    rcases Nat.lt_trichotomy i j with q | q | q
    ·exact q
    ·subst q;omega
    ·have:=k1.mono j i hcj hci q;omega
   have hoj:ops[j]? =some ops[j]:=by simp [hj]
   have hpo:=VG hp j ops[j] (by simp [hj]);simp only [Nat.zero_add]at hpo;exact hpo.2 hcj i hij hci
  ·rcases Nat.lt_trichotomy i j with q | q | q
   ·have:=k1.mono i j hci hcj q;omega
   ·exact q
   ·have:=k1.mono j i hcj hci q;omega
  ·simp only [HI.D,Qy,h0]
  ·simp only [HI.D,Qy,h0]
  ·simp only [HI.D,Qy,h0]
 ·cases hs
def WZ (N:Nat) (L:Array Bool):List Nat:=(List.range N).filter fun i=> !(L.getD i false)
theorem tw {N:Nat} {L:Array Bool} {i:Nat} (hL:L.size=N) (hi:i<N) (hun:L.getD i false=false):(WZ N (L.setIfInBounds i true)).length +1=(WZ N L).length :=by
 have h1:WZ N (L.setIfInBounds i true)=(WZ N L).erase i:=by
  have hnd:(WZ N L).Nodup :=List.Nodup.sublist List.filter_sublist List.nodup_range;rw [hnd.erase_eq_filter];unfold WZ;rw [List.filter_filter];refine List.filter_congr fun j hj=>?_;by_cases e:j=i
  ·subst e;rw [CU (by omega)];simp
  ·rw [Bb e];simp [e]
 have h2:i∈WZ N L:=List.mem_filter.2 ⟨mem_range.2 hi,by rw [hun];rfl⟩;rw [h1,List.length_erase_of_mem h2];have:=List.length_pos_of_mem h2;omega
theorem HK.more {c c':Nat} {w:World} {G:Kg} (hc:c<=c') (hk:HK F c h w G):HK F c' h w G:=⟨hk.ent,hk.inj,hk.new,fun i hi=>hk.fr i (by omega),hk.inv,hk.out,hk.hsize,hk.ext,hk.rcs⟩
theorem HK.heq {c:Nat} {w w':World} {G:Kg} (hk:HK F c h w G) (hh:w'.heap=w.heap) (ho:DD w w'):HK F c h w' G:=
 ⟨fun i e q=>by obtain⟨b,T,cur,fz,k⟩:=hk.ent i e q;exact⟨b,T,cur,fz,by rw [hh];exact k⟩,hk.inj,hk.new,hk.fr,hk.inv,OC hk.out ho,by rw [hh];exact hk.hsize,by rw [hh];exact hk.ext,fun q hq=>have ⟨l,r,h1,h2,h3,h4⟩:=hk.rcs q hq;⟨l,r,h1,h2,by rw [hh];exact h3,h4⟩⟩
theorem w7 (hX:Qw P F.I X) (hgt:Sc F.I gs) (o_:Kx P F.I F.Y rec) {m:Nat->Nat} {dm:Kt Nat} {D:KD} (hy:jO P X gs rec ops m dm n c tm h D) {G0:Kg} {w0:World} {Q:Exit->Act->World->Prop}
 (hQ: ∀ a w G,pg F n h c G0 w0 (fu D.V ops.toList 0 tm) (D.U c (fun _=>true) D.M) (D.Cn D.M) a w G->Q .normal a w):
 ∀ (fuel:Nat) (L:Array Bool) (p:Nat) (a:Act) (w:World) (G:Kg),OG ops m dm n c tm h D F G0 w0 L p a w G->(WZ ops.size L).length <=fuel->wpAny P .any ops Q fuel L a w:=by
 have fin: ∀ (L:Array Bool) (p:Nat) (a:Act) (w:World) (G:Kg),OG ops m dm n c tm h D F G0 w0 L p a w G->(∀ i,i<ops.size->L.getD i false=true)->Q .normal a w:=fun L p a w G hi abg=>by
  have hpM:p=D.M:=by
   rcases lt_or_ge p D.M with q | q
   ·obtain⟨k,hk,hck,hqk⟩:=hy.chs p q;have:=(hi.pc k hk hck).1 (abg k hk);omega
   ·have:=hi.pM;omega
  subst hpM;have hU:D.U c (fun j=>L.getD j false) D.M=D.U c (fun _=>true) D.M:=by unfold KD.U aV;congr 2;refine List.filter_congr fun x hx=>?_;simp only;rw [abg x.1 ((hy.mkm x.1 x.2).1 hx).1]
  refine hQ a w G (.of (by rw [<-hU];exact hi.hk) ⟨hi.dfr,hi.sz,fun s=>?_⟩ (by rw [<-hU];exact hi.st) hi.kp (by have:=hi.cle;omega));have h1:=hi.sl s;have h2:gt (fu D.V ops.toList 0 tm) s=match dm.get s with
   | some j=>D.V j
   | none=>gt tm s:=by
   cases hd:dm.get s with
   | none=>
     refine Qx fun j o ho e=>?_;have:=(hy.dmk s j).2 ⟨o,by simpa using ho,e⟩;rw [hd]at this;cases this
   | some j=>
     obtain⟨o,ho,hos⟩:=(hy.dmk s j).1 hd;have:=YM (V:=D.V) (l:=ops.toList) (i:=0) (t:=tm) (j:=j) (o:=o) (by simpa using ho) hos (fun j2 o2 n_ ho2=>(hy.dst j2 j o2 o (by simpa using ho2) ho n_ s hos).1);simpa using this
  rw [h2];cases hd:dm.get s with
  | none=>rw [hd]at h1;exact h1
  | some j=>
    obtain⟨o,ho,hos⟩:=(hy.dmk s j).1 hd;rw [hd]at h1;simp only [abg j (Array.getElem?_eq_some_iff.1 ho).1]at h1;exact h1
 intro fuel;induction fuel with
 | zero=>
   intro L p a w G hi hl;have abg: ∀ i,i<ops.size->L.getD i false=true:=fun i Tw=>by
    cases q:L.getD i false with
    | true=>rfl
    | false=>
      have:i∈WZ ops.size L:=List.mem_filter.2 ⟨mem_range.2 Tw,by rw [q];rfl⟩;have:=List.length_pos_of_mem this;omega
   refine⟨?_,fin L p a w G hi abg⟩;cases hr:Region.ready .any ops L with
   | nil=>rfl
   | cons i r=>
     obtain⟨o,ho,hun,_⟩:=aU hy.hm hi.d (i:=i) (by rw [hr];simp);rw [abg i (Array.getElem?_eq_some_iff.1 ho).1]at hun;cases hun
 | succ fuel ih=>
   intro L p a w G hi hl;refine⟨fun hr=>fin L p a w G hi (jN hy.hm hi.d.1 hr),fun i hr=>?_⟩;obtain⟨o,ho,hun,_⟩:=aU hy.hm hi.d hr;refine wpOp_mono (fun a' w' ⟨p',G',M_⟩=>ih _ p' a' w' G' M_ ?_) (tl hX hgt o_ hy hi hr);have:=tw hi.d.1 (Array.getElem?_eq_some_iff.1 ho).1 hun;omega
theorem tx (S_:P.follows .mixedOrders =true) (hX:Qw P F.I X) (hgt:Sc F.I gs) (o_:Kx P F.I F.Y rec) {id:Nat} {a:Act} {w:World} {G:Kg} (hk:HK F c h w G) (I_:SK n tm a G) {L_:Kt Kv} {h':Kt Ke} {c':Nat} (hs:tv P X gs rec n ops tm h c=some (L_,h',c')):
 (Code.region id ops true).wp P (fun e a' w'=>e= .normal /\ ∃ G',pg F n h c G w L_ h' c' a' w' G') a w:=by
 unfold tv at hs;split at hs
 ·rename_i mt dm IN;split at hs
  ·rename_i hl;split at hs
   ·rename_i s hd;split at hs
    ·rename_i hp;simp only [injEq,Prod.mk.injEq]at hs;obtain⟨rfl,rfl,rfl⟩:=hs;have hy:=po IN hl hd hp;refine wp_region_any S_ ?_;have hk1:HK F c h {w with drawn:=w.drawn+1} G:=hk.heq rfl ⟨rfl,rfl,rfl⟩;have hU:s.D.U c (fun j=>(Array.replicate ops.size false).getD j false) 0=h:=by
      unfold KD.U aV;have:(s.D.mks.filter fun x=>(Array.replicate ops.size false).getD x.1 false&& !(Be (s.D.ab 0) x.1))=[]:=by refine List.filter_eq_nil_iff.2 fun x _=>?_;simp [Array.getD_eq_getD_getElem?,Array.getElem?_replicate];intro q;split at q<;>simp_all
      rw [this];exact hy.H0
     have hL: ∀ j,(Array.replicate ops.size false).getD j false=false:=fun j=>by simp [Array.getD_eq_getD_getElem?,Array.getElem?_replicate];split<;>simp
     have hinv:OG ops (kmk' mt) dm n c tm h s.D F G w (Array.replicate ops.size false) 0 a {w with drawn:=w.drawn+1} G:=by
      refine⟨⟨by simp,fun k q=>by rw [hL]at q;cases q⟩,Nat.zero_le _,fun k _ _=>by rw [hL];simp,?_,by rw [hy.C0];exact le_refl _,fun j _ _=>hk.fr (c+j) (by omega),fun j e _ _=>?_,fun j q=>?_,fun x=>?_,I_.size,I_.dfr,?_,Kp.refl c G⟩
      ·rw [hU,hy.C0];exact hk1.more (by omega)
      ·rw [hy.H0];cases q:h.get (c+j)with
       | none=>rfl
       | some d=>
         obtain⟨b,_,_,_,_,r,_⟩:=hk.ent _ _ q;rw [(hk.fr (c+j) (by omega)).1]at r;cases r
      ·rw [hy.ab0]at q;simp [Be]at q
      ·have:=I_.sl x;split
       ·rw [hL];exact this
       ·exact this
      ·rw [hU];exact⟨Kg.le.refl G,le_refl _,fun _ _ _=>rfl,fun i e b q1 q2=> .inr ⟨i,e,q1,q2⟩,⟨rfl,rfl,rfl⟩,rfl⟩
     refine w7 hX hgt o_ hy (fun a' w' G' ht=>⟨rfl,G',ht⟩) ops.size _ 0 a _ G hinv ?_;have:(WZ ops.size (Array.replicate ops.size false)).length <=(List.range ops.size).length :=List.length_filter_le _ _;simpa using this
    ·cases hs
   ·cases hs
  ·cases hs
 ·cases hs
end
end
end Go.PL
namespace Go.PL
open Go Go.RowKit
noncomputable section
abbrev KE:=Exit×Kt Kv×Kt Ke×Nat
def mR (body:Kt Kv->Kt Ke->Nat->Option KE):Nat->Kt Kv->Kt Ke->Nat->Option KE
 | 0,_,_,_=>none
 | k+1,tm,h,c=>match body tm h c with
   | some (e,L_,h',c')=>match e with
     | .normal =>mR body k L_ h' c'
     | e=>some (e,L_,h',c')
   | none=>none
def w8 (r:Option KR):Option KE:=match r with
 | some (tm,h,c)=>some (.normal,tm,h,c)
 | none=>none
def jP (P:Program) (X:KX) (rec:aP->SS) (Y:aP) (n:Nat) (ps:Array Tmp) (asg bd:Code) (tm:Kt Kv) (h:Kt Ke) (c:Nat) (g:Operand):Option KE:=match Fa tm g with
 | .c (.f f fi ca)=>match td P X (rec ((c,⟨tm,n,ps,asg,bd⟩)::Y)) h (c+1) f (fi.map Kv.c++(.c (.y c)::ca.map Kv.c))with
   | some (_,h',c')=>some (.normal,tm,h',c')
   | none=>none
 | _=>none
theorem HK.named {F:KF} {c:Nat} {h:Kt Ke} {w:World} {G:Kg} (hk:HK F c h w G) (l:Nat):HK F (c+1) h w (G.set c l none)/\CP h G w h (G.set c l none) w:=by
 have hun:=hk.fr c (le_refl c);have hle:G.le (G.set c l none):=Kg.set_le hun.1 hun.2;have Tc: ∀ i e,h.get i=some e->(G.set c l none).blk i=G.blk i:=fun i e hi=>by obtain⟨b,_,_,_,_,h1,_⟩:=hk.ent i e hi;rw [Kg.set_blk,if_neg (fun q=>by subst q;rw [hun.1]at h1;cases h1)]
 have z_: ∀ i e b,h.get i=some e->(G.set c l none).blk i=some b->w.heap.size<=b\/ ∃ j d,h.get j=some d/\G.blk j=some b:=fun i e b hi hb=>by rw [Tc i e hi]at hb;exact .inr ⟨i,e,hi,hb⟩
 refine⟨⟨fun i e hi=>WY.mono hle (fun _ _=>rfl) (hk.ent i e hi),fun i j e d b hi hj hbi hbj=>?_,fun i e b hi hb=>?_,fun i hi=>?_,hk.inv,hk.out,hk.hsize,hk.ext,fun q hq=>(hk.rcs q hq).mono hle (fun _ _ _=>rfl) z_⟩,⟨hle,le_refl _,fun _ _ _=>rfl,z_,sG w,rfl⟩⟩
 ·rw [Tc i e hi]at hbi;rw [Tc j d hj]at hbj;exact hk.inj i j e d b hi hj hbi hbj
 ·rw [Tc i e hi]at hb;exact hk.new i e b hi hb
 ·rw [Kg.set_blk,Kg.set_cap,if_neg (by omega),if_neg (by omega)];exact hk.fr i (by omega)
theorem pq {P:Program} {I:World->Prop} {X:KX} {rec:aP->SS} {Y:aP} {n:Nat} {g:Operand} {ps:Array Tmp} {assign body:Code} {tm:Kt Kv} {h:Kt Ke} {c:Nat} {e:Exit} {L_:Kt Kv} {h':Kt Ke} {c':Nat} (hX:Qw P I X) (o_: ∀ Y,Kx P I Y (rec Y))
 (hs:jP P X rec Y n ps assign body tm h c g=some (e,L_,h',c')):Is P I Y (.rangeFunc g ps assign body) n tm h c e L_ h' c':=by
 intro F a w G hI hY hk I_;subst hI hY;unfold jP at hs;split at hs
 ·rename_i f fi ca hx;split at hs
  ·rename_i v h1 c1 hi;simp only [injEq,Prod.mk.injEq]at hs;obtain⟨rfl,rfl,rfl,rfl⟩:=hs;have hev:=I_.ev g;rw [hx]at hev;obtain⟨xs,ys,e1,k1,k2⟩:=hev;refine wpIn_wide.1 (wpIn_rangeFunc (F:=Fence.wide) (n:=0) fun fn _=>?_);have hb:Below w.heap.size w ((w.alloc (.deferred (some []))).alloc (.loop {state:= .ready,pending:=none,fn,tmps:=a.tmps,params:=ps,assign,body,defers:=w.heap.size})):=((Below.refl _ _).alloc (le_refl _) _).alloc (by simp) _;generalize hw1:((w.alloc (.deferred (some []))).alloc (.loop {state:= .ready,pending:=none,fn,tmps:=a.tmps,params:=ps,assign,body,defers:=w.heap.size}))=w1 at hb;have Tr:w1.heap.size=w.heap.size+2:=by rw [<-hw1,World.size_alloc,World.size_alloc]
   have hd0:w1.heap[w.heap.size]? =some (.deferred (some [])):=by rw [<-hw1,Lib.alloc_old _ _ _ (by rw [World.size_alloc];omega)];exact World.alloc_heap_new _ _
   have hl0:w1.heap[w.heap.size+1]? =some (.loop {state:= .ready,pending:=none,fn,tmps:=a.tmps,params:=ps,assign,body,defers:=w.heap.size}):=by rw [<-hw1];have q:=World.alloc_heap_new (w.alloc (.deferred (some []))) (.loop {state:= .ready,pending:=none,fn,tmps:=a.tmps,params:=ps,assign,body,defers:=w.heap.size});rw [World.size_alloc]at q;exact q
   obtain⟨hk0,an5⟩:=pi hk hb;obtain⟨hk1,aey⟩:=hk0.named (w.heap.size+1);have aey:=an5.trans aey;generalize hG1:G.set c (w.heap.size+1) none=G1 at hk1 aey;have hc0:G1.blk c=some (w.heap.size+1):=by rw [<-hG1,Kg.set_blk,if_pos rfl]
   have aas:Iq G1 (fi.map Kv.c++(.c (.y c)::ca.map Kv.c)) (xs++ #[Value.func (.yield (w.heap.size+1)) #[] #[]]++ys).toList :=by have q:Iq G1 (.c (.y c)::ca.map Kv.c) (Value.func (.yield (w.heap.size+1)) #[] #[]::ys.toList):=⟨_,_,rfl,⟨_,hc0,rfl⟩,(Iq.ofL k2).mono aey.le⟩;have:=((Iq.ofL k1).mono aey.le).append q;simpa using this
   have ahW: ∀ r,w.heap.size<=r-> ∀ i d,h.get i=some d->G1.blk i ≠ some r:=fun r hr i d hi q=>by
    rcases aey.own i d r hi q with z | ⟨j,d',z1,z2⟩
    ·obtain⟨b,_,_,_,_,y1,_⟩:=hk.ent i d hi;have:=aey.le.blk _ _ y1;rw [q]at this;injection this with this;subst this;have:=hk.lt hi y1;omega
    ·have:=hk.lt z1 z2;omega
   have hk2:HK ⟨F.w0,F.I,(c,⟨tm,n,ps,assign,body⟩)::F.Y⟩ (c+1) h w1 G1:=⟨hk1.ent,hk1.inj,hk1.new,hk1.fr,hk1.inv,hk1.out,hk1.hsize,hk1.ext,fun q hq=>by
    rcases mem_cons.1 hq with e | e
    ·subst e;exact⟨w.heap.size+1,_,hc0,by have:=hk.hsize;simp only;omega,hl0,ahW _ (by omega),rfl,rfl,rfl,rfl,rfl,I_.size,fun i=>(I_.sl i).mono aey.le⟩
    ·exact hk1.rcs q e⟩
   obtain⟨f1,f2⟩:=aR (F:=⟨F.w0,F.I,(c,⟨tm,n,ps,assign,body⟩)::F.Y⟩) hX (o_ _) hk2 aas hi;refine⟨w.heap.size+1,[fa w.heap.size],w1,{target:= .fn (.func f) ys,args:=xs++ #[.func (.yield (w.heap.size+1)) #[] #[]]},w1,f,_,w1,?_,?_,fun _ _=>trivial,?_,by simp [Fence.wide],callsIn_wide.2 (f2.mono fun e w3 ⟨u,he,G',b1,b2,b3,b4,b5⟩=>?_)⟩
   ·rw [<-hw1];exact run_enterLoop_outer ..
   ·have q:(#[Operand.const (.func (.yield (w.heap.size+1)) #[] #[])]:Array Operand).map a.eval= #[Value.func (.yield (w.heap.size+1)) #[] #[]]:=by simp [Act.eval]
    simp only [resolve,rangeCall,q,e1];rfl
   ·simp [invoke,Tv f1]
   ·subst he;have hw3:=aey.trans b2;have hl3:w3.heap[w.heap.size+1]? =some (.loop {state:= .ready,pending:=none,fn,tmps:=a.tmps,params:=ps,assign,body,defers:=w.heap.size}):=(b2.frm _ (by omega) (ahW _ (by omega))).trans hl0;have hd3:w3.heap[w.heap.size]? =some (.deferred (some [])):=(b2.frm _ (by omega) (ahW _ (by omega))).trans hd0;have hs3:w1.heap.size<=w3.heap.size:=b2.size;have alq: ∀ r,w.heap.size<=r->r<w1.heap.size-> ∀ i d,h1.get i=some d->G'.blk i ≠ some r:=fun r hr hr2 i d hi q=>by
     rcases b2.own i d r hi q with z | ⟨j,d',z1,z2⟩
     ·omega
     ·exact ahW r hr j d' z1 z2
    refine⟨none,_,run_endLoop hl3 (by simp),?_⟩;have b1':HK F c1 h1 w3 G':=b1.ys (Y0:=F.Y) (fun q hq=>List.mem_cons_of_mem _ hq);have hk3:=(b1'.poke (.loop {state:= .exhausted,pending:=none,fn,tmps:=a.tmps,params:=ps,assign,body,defers:=w.heap.size}) (alq (w.heap.size+1) (by omega) (by omega)) (by have:=hk.hsize;omega) (fun q hq e=>by obtain⟨l,r,z1,_,z3,_⟩:=hk.rcs q hq;have:=hw3.le.blk _ _ z1;rw [e]at this;injection this with this;subst this;have:=(Array.getElem?_eq_some_iff.1 z3).1;omega)).dd (fa w.heap.size::G.df)
    have hq3:=hw3.q.poke (.loop {state:= .exhausted,pending:=none,fn,tmps:=a.tmps,params:=ps,assign,body,defers:=w.heap.size}) (r:=w.heap.size+1) (by omega);refine⟨rfl,G'.dd (fa w.heap.size::G.df),hk3,⟨by simp [I_.dfr,Kg.dd],I_.size,fun i=>((I_.sl i).mono hw3.le).mono (G'.le_dd _)⟩,⟨⟨hq3.le.blk,hq3.le.cap⟩,hq3.size,hq3.frm,hq3.own,hq3.out⟩,fun i hi=>?_,by omega,[w.heap.size],by simp,rfl,fun r hr=>?_⟩
    ·obtain⟨y1,y2⟩:=b4 i (by omega);rw [<-hG1,Kg.set_blk,if_neg (by omega)]at y1;rw [<-hG1,Kg.set_cap,if_neg (by omega)]at y2;exact⟨y1,y2⟩
    ·simp only [List.mem_singleton]at hr;subst hr;exact⟨le_refl _,by simp;omega,by rw [World.putObj_heap_other (by omega)];exact hd3,alq _ (by omega) (by omega)⟩
  ·cases hs
 ·cases hs
def C5 (P:Program) (X:KX) (gs:List (Nat×List Kc)) (rec:aP->SS) (Y:aP) (n:Nat):Code->Kt Kv->Kt Ke->Nat->Option KE
 | .skip,tm,h,c=>some (.normal,tm,h,c)
 | .ret,tm,h,c=>some (.ret,tm,h,c)
 | .exit j,tm,h,c=>some (.exit j,tm,h,c)
 | .label _,tm,h,c=>some (.normal,tm,h,c)
 | .scope x,tm,h,c=>match C5 P X gs rec Y n x tm h c with
   | some (e,r)=>match e with
     | .normal =>some (.normal,r)
     | .ret =>some (.ret,r)
     | .exit j=>some (.exit j,r)
     | _=>none
   | none=>none
 | .block j x,tm,h,c=>match C5 P X gs rec Y n x tm h c with
   | some (e,r)=>match e with
     | .exit i=>match Nat.beq i j with
       | true=>some (.normal,r)
       | false=>some (.exit i,r)
     | e=>some (e,r)
   | none=>none
 | .cond x a b,tm,h,c=>match Fa tm x with
   | .c (.b q)=>match q with
     | true=>C5 P X gs rec Y n a tm h c
     | false=>C5 P X gs rec Y n b tm h c
   | _=>none
 | .seq a b,tm,h,c=>match C5 P X gs rec Y n a tm h c with
   | some (e,L_,h',c')=>match e with
     | .normal =>C5 P X gs rec Y n b L_ h' c'
     | e=>some (e,L_,h',c')
   | none=>none
 | .region _ ops dr,tm,h,c=>match dr with
   | false=>w8 (jK P X gs (rec Y) (jM P X gs (rec []) Y) n ops ops.toList tm h c)
   | true=>w8 (tv P X gs (rec Y) n ops tm h c)
 | .loop x,tm,h,c=>mR (C5 P X gs rec Y n x) 100000 tm h c
 | .rangeFunc g ps x y,tm,h,c=>jP P X rec Y n ps x y tm h c g
 | _,_,_,_=>none
section
variable {P:Program} {I:World->Prop} {X:KX} {gs:List (Nat×List Kc)} {rec:aP->SS} {Y:aP} {n:Nat}
theorem Is.here {code:Code} {tm:Kt Kv} {h:Kt Ke} {c:Nat} {e:Exit} (hw: ∀ (a:Act) (w:World) (Q:Exit->Act->World->Prop),Q e a w->code.wp P Q a w):Is P I Y code n tm h c e tm h c:=fun _ a w G _ _ hk I_=>
 hw a w _ ⟨rfl,G, .of hk I_ (CP.refl h G w) (Kp.refl c G) (le_refl _)⟩
theorem fy {x:Code} (hx: ∀ tm h c e L_ h' c',C5 P X gs rec Y n x tm h c=some (e,L_,h',c')->Is P I Y x n tm h c e L_ h' c'): ∀ (k:Nat) (tm:Kt Kv) (h:Kt Ke) (c:Nat) (e:Exit) (L_:Kt Kv) (h':Kt Ke) (c':Nat),mR (C5 P X gs rec Y n x) k tm h c=some (e,L_,h',c')->
 ∀ (F:KF) (a:Act) (w:World) (G:Kg),F.I=I->F.Y=Y->HK F c h w G->SK n tm a G->Code.rounds P x (fun e' a' w'=>e'=e/\ ∃ G',pg F n h c G w L_ h' c' a' w' G') k a w
 | 0,tm,h,c,e,L_,h',c',hs,F,a,w,G,hI,hY,hk,I_=>by cases hs
 | k+1,tm,h,c,e,L_,h',c',hs,F,a,w,G,hI,hY,hk,I_=>by
   simp only [mR]at hs;split at hs
   ·rename_i e1 tm1 h1 c1 hb;unfold Code.rounds;refine Code.wp_mono (fun e2 a2 w2 ⟨q,G2,ht⟩=>?_) (hx tm h c e1 tm1 h1 c1 hb F a w G hI hY hk I_);subst q;cases e2<;>simp only [Exit.then]at hs ⊢
    case normal=>
     have ih:=fy hx k tm1 h1 c1 e L_ h' c' hs F a2 w2 G2 hI hY ht.hk ht.sk;have mono: ∀ (k:Nat) (Q Q':Exit->Act->World->Prop) (hq: ∀ e a w,Q e a w->Q' e a w) (a:Act) (w:World),Code.rounds P x Q k a w->Code.rounds P x Q' k a w:=by
      intro k;induction k with
      | zero=>intro Q Q' hq a w hh;exact hh
      | succ k ih=>
        intro Q Q' hq a w hh;unfold Code.rounds at hh ⊢;refine Code.wp_mono (fun e a w hh=>?_) hh;cases e<;>simp only [Exit.then]at hh ⊢ <;>first
         | exact ih Q Q' hq a w hh
         | exact hq _ _ _ hh
     exact mono k _ _ (fun e3 a3 w3 ⟨q,G3,ht3⟩=>⟨q,G3,ht.trans ht3⟩) a2 w2 ih
    all_goals
     simp only [injEq,Prod.mk.injEq]at hs;obtain⟨rfl,rfl,rfl,rfl⟩:=hs;exact⟨rfl,G2,ht⟩
   ·cases hs
theorem FK (S_:P.follows .mixedOrders =true) (hX:Qw P I X) (hgt:Sc I gs) (o_: ∀ Y,Kx P I Y (rec Y)): ∀ (code:Code) (tm:Kt Kv) (h:Kt Ke) (c:Nat) (e:Exit) (L_:Kt Kv) (h':Kt Ke) (c':Nat),C5 P X gs rec Y n code tm h c=some (e,L_,h',c')->Is P I Y code n tm h c e L_ h' c'
 | .skip,tm,h,c,e,L_,h',c',hs=>by simp only [C5,injEq,Prod.mk.injEq]at hs;obtain⟨rfl,rfl,rfl,rfl⟩:=hs;exact Is.here fun _ _ _ q=>wp_skip q
 | .ret,tm,h,c,e,L_,h',c',hs=>by simp only [C5,injEq,Prod.mk.injEq]at hs;obtain⟨rfl,rfl,rfl,rfl⟩:=hs;exact Is.here fun _ _ _ q=>wp_ret q
 | .exit j,tm,h,c,e,L_,h',c',hs=>by simp only [C5,injEq,Prod.mk.injEq]at hs;obtain⟨rfl,rfl,rfl,rfl⟩:=hs;exact Is.here fun _ _ _ q=>wp_exit q
 | .label j,tm,h,c,e,L_,h',c',hs=>by simp only [C5,injEq,Prod.mk.injEq]at hs;obtain⟨rfl,rfl,rfl,rfl⟩:=hs;exact Is.here fun _ _ _ q=>wp_label q
 | .scope x,tm,h,c,e,L_,h',c',hs=>by
   simp only [C5]at hs;split at hs
   ·rename_i e1 r hr;obtain⟨tm1,h1,c1⟩:=r;have ih:=FK S_ hX hgt o_ x tm h c e1 tm1 h1 c1 hr;intro F a w G hI hY hk I_;refine wp_scope_straight (Code.wp_mono (fun e2 a2 w2 ⟨q,G2,ht⟩=>?_) (ih F a w G hI hY hk I_));subst q;cases e2<;>simp only [Exit.noGoto]at hs ⊢ <;>first
     | (cases hs;done)
     | (simp only [injEq,Prod.mk.injEq]at hs
        obtain⟨rfl,rfl,rfl,rfl⟩:=hs;exact⟨rfl,G2,ht⟩)
   ·cases hs
 | .block j x,tm,h,c,e,L_,h',c',hs=>by
   simp only [C5]at hs;split at hs
   ·rename_i e1 r hr;obtain⟨tm1,h1,c1⟩:=r;have ih:=FK S_ hX hgt o_ x tm h c e1 tm1 h1 c1 hr;intro F a w G hI hY hk I_;refine wp_block (Code.wp_mono (fun e2 a2 w2 ⟨q,G2,ht⟩=>?_) (ih F a w G hI hY hk I_));subst q;cases e2<;>simp only [Exit.inBlock]at hs ⊢
    case exit i=>
     split at hs
     ·rename_i hb;have hb:=eq_of_beq_eq_true hb;subst hb;simp only [injEq,Prod.mk.injEq]at hs;obtain⟨rfl,rfl,rfl,rfl⟩:=hs;rw [if_pos rfl];exact⟨rfl,G2,ht⟩
     ·rename_i hb;simp only [injEq,Prod.mk.injEq]at hs;obtain⟨rfl,rfl,rfl,rfl⟩:=hs;rw [if_neg (fun q=>by subst q;simp at hb)];exact⟨rfl,G2,ht⟩
    all_goals
     simp only [injEq,Prod.mk.injEq]at hs;obtain⟨rfl,rfl,rfl,rfl⟩:=hs;exact⟨rfl,G2,ht⟩
   ·cases hs
 | .cond x y z,tm,h,c,e,L_,h',c',hs=>by
   simp only [C5]at hs;split at hs
   ·rename_i q hq;intro F a w G hI hY hk I_;have hx:=I_.ev x;rw [hq]at hx;simp only [KV,KC]at hx;split at hs
    ·exact wp_cond_true hx (FK S_ hX hgt o_ y tm h c e L_ h' c' hs F a w G hI hY hk I_)
    ·exact wp_cond_false hx (FK S_ hX hgt o_ z tm h c e L_ h' c' hs F a w G hI hY hk I_)
   ·cases hs
 | .seq x y,tm,h,c,e,L_,h',c',hs=>by
   simp only [C5]at hs;split at hs
   ·rename_i e1 tm1 h1 c1 hr;have ih:=FK S_ hX hgt o_ x tm h c e1 tm1 h1 c1 hr;intro F a w G hI hY hk I_;refine wp_seq (Code.wp_mono (fun e2 a2 w2 ⟨q,G2,ht⟩=>?_) (ih F a w G hI hY hk I_));subst q;cases e2<;>simp only [Exit.then]at hs ⊢
    case normal=>
     exact Code.wp_mono (fun e3 a3 w3 ⟨q,G3,ht3⟩=>⟨q,G3,ht.trans ht3⟩) (FK S_ hX hgt o_ y tm1 h1 c1 e L_ h' c' hs F a2 w2 G2 hI hY ht.hk ht.sk)
    all_goals
     simp only [injEq,Prod.mk.injEq]at hs;obtain⟨rfl,rfl,rfl,rfl⟩:=hs;exact⟨rfl,G2,ht⟩
   ·cases hs
 | .region id ops dr,tm,h,c,e,L_,h',c',hs=>by
   simp only [C5]at hs;intro F a w G hI hY hk I_;subst hI hY;split at hs
   ·unfold w8 at hs;split at hs
    ·rename_i tm1 h1 c1 hr;simp only [injEq,Prod.mk.injEq]at hs;obtain⟨rfl,rfl,rfl,rfl⟩:=hs;exact(wpIn_wide (n:=0)).1 (wpIn_region_list (F:=uT none) (ST (fo:=none) hX hgt (o_ _) (pk hX hgt (o_ _)) ops.toList tm h c a w G hk I_ hr fun a' w' G' ht=>⟨rfl,G',ht⟩))
    ·cases hs
   ·unfold w8 at hs;split at hs
    ·rename_i tm1 h1 c1 hr;simp only [injEq,Prod.mk.injEq]at hs;obtain⟨rfl,rfl,rfl,rfl⟩:=hs;exact tx S_ hX hgt (o_ _) hk I_ hr
    ·cases hs
 | .loop x,tm,h,c,e,L_,h',c',hs=>by simp only [C5]at hs;intro F a w G hI hY hk I_;exact wp_loop_rounds 100000 (fy (fun tm h c e L_ h' c' q=>FK S_ hX hgt o_ x tm h c e L_ h' c' q) 100000 tm h c e L_ h' c' hs F a w G hI hY hk I_)
 | .rangeFunc ..,tm,h,c,e,L_,h',c',hs=>by simp only [C5]at hs;exact pq hX o_ hs
 | .goto _,_,_,_,_,_,_,_,hs=>by simp [C5]at hs
 | .refuse _,_,_,_,_,_,_,_,hs=>by simp [C5]at hs
def AaQ (P:Program) (X:KX) (gs:List (Nat×List Kc)):Nat->aP->SS
 | 0=>fun _ _ _ _ _ _=>none
 | k+1=>fun Y code n tm h c=>C5 P X gs (AaQ P X gs k) Y n code tm h c
theorem mS (S_:P.follows .mixedOrders =true) (hX:Qw P I X) (hgt:Sc I gs): ∀ k Y,Kx P I Y (AaQ P X gs k Y)
 | 0=>fun _ _ _ _ _ _ _ _ _ _ hs=>by cases hs
 | k+1=>fun Y code n tm h c e L_ h' c' hs=>FK S_ hX hgt (mS S_ hX hgt k) code tm h c e L_ h' c' hs
def AaR (P:Program) (X:KX) (gs:List (Nat×List Kc)) (k:Nat) (f:FuncId) (args:List Kv):Option V:=match td P X (AaQ P X gs k []) .lf 0 f args with
 | some (v,_,_)=>fh v
 | none=>none
theorem AaS (IN:GX I) (S_:P.follows .mixedOrders =true) (hX:Qw P I X) (hgt:Sc I gs) {k:Nat} {f:FuncId} {args:List Kv} {xs:List V} {y:V} (ha:Vz args=some xs) (hs:AaR P X gs k f args=some y) (he:ent P f=true):Cm P I f xs (· =y):=by
 unfold AaR at hs;split at hs
 ·rename_i v h' c' hi;refine⟨he,fun w vs av hI hav hr=>?_⟩;have hG:HK ⟨w,I,[]⟩ 0 .lf w ⟨fun _=>none,fun _=>none,[]⟩:=
   ⟨(fun i e q=>by cases q),(fun i j e d b q=>by cases q),(fun i e b q=>by cases q),fun _ _=>⟨rfl,rfl⟩,fun w' h1 h2=>IN w w' hI h1 h2,sG w,le_refl _,fun _ _=>rfl,fun _ q=>by cases q⟩
  have aas: ∀ (ys:List Kv) (xs:List V) (us:List Value),Vz ys=some xs->Ao w (im av) xs us->Iq ⟨fun _=>none,fun _=>none,[]⟩ ys us:=by
   intro ys;induction ys with
   | nil=>
     intro xs us h1 h2;simp only [Vz,injEq]at h1;subst h1;simpa [Ao,Iq] using h2
   | cons y0 ys ih=>
     intro xs us h1 h2;simp only [Vz]at h1;split at h1
     ·rename_i x xs' e1 e2;injection h1 with h1;subst h1;simp only [Ao]at h2;obtain⟨u,r,rfl,h3,h4⟩:=h2;exact⟨u,r,rfl,(fj e1).2 h3,ih xs' r e2 h4⟩
     ·cases h1
  obtain⟨_,hc⟩:=aR (F:=⟨w,I,[]⟩) hX (mS S_ hX hgt k []) hG (aas args xs vs.toList ha hr) hi;refine hc.mono fun e w' ⟨u,X_,G',q1,q2,q3,_⟩=>⟨u,y,X_,rfl,?_,(fj hs).1 q3,q1.out.os,q1.out.tape,q1.out.output,q1.hsize,q1.ext⟩;unfold fh at hs;split at hs<;>first
   | (injection hs with hs;subst hs;rfl)
   | cases hs
 ·cases hs
end
end
end Go.PL
namespace Go.PL
open Go
theorem pv {P:Program} {f:FuncId} {fn:Func} {s:ChangeSpec} {c:OpenClaim} (h0:(c.wf (OpenSpec.ofChange s))=true) (h1:(laidOutB P)=true) (h2:(mapsRowed P)=true) (h3:(fn.params.all (P.readableRec ·))=true) (h4:(namedTie P c.named s.vars)=true) (h5:((c.stops==[]))=true) (h6:((P.stops==[]))=true) (h7:((c.knobs==[]))=true) (h8:((P.stopKnobs==[]))=true) (h9:((c.inPlace==P.inPlace f))=true) (h10:((c.unfollowed==P.unfollowed f))=true) (h11:((c.recurses==P.recurses f))=true) (h12:((c.named==P.varsNamed f))=true) (h13:((c.maps==(fn.params.toList++s.plain.varTypes P).any (P.mapsRec ·)))=true) (h14:((c.ifaces==(fn.params.toList++s.plain.varTypes P).any (P.ifacesRec ·)))=true) (h15:((c.mapsOut==P.mapsAmong fn.resultTypes.toList))=true) (h16:((c.loops==(fn.params.toList++s.plain.varTypes P).any (P.loopsFrom ·)))=true) (h17:((c.wideKeys==(fn.params.toList++s.plain.varTypes P++fn.resultTypes.toList).any (P.wideKeysFrom ·)))=true) (h18:(s.vars.all (P.varReadable ·))=true) (h19:(fn.resultTypes.all (fun t=>P.readableRec t&&decide (t<P.types.size)))=true) (h20:((c.ifacesOut==fn.resultTypes.toList.any (P.ifacesRec ·)))=true) (h21:((c.loopsOut==fn.resultTypes.toList.any (P.loopsFrom ·)))=true) (h22:((c.plainKeys==P.plainKeys))=true) (h23:(c.shortTexts.isNone)=true) (h24:(P.stopsHeard)=true) (h25:(P.mayEnter)=true) (h26:((c.lifted==P.liftsFinal))=true) (h27:((P.make==some c.make))=true) (h28:(c.domain.isEmpty&&(c.kinds==[]))=true) (h29:((c.pinned==c.pinnedBy))=true) (h30:((c.veiled==(fn.params.toList++s.plain.varTypes P++fn.resultTypes.toList).any (P.veiledRec ·)))=true) (h31:(c.veiledFits P fn.params.toList (fn.params.toList++s.plain.varTypes P++fn.resultTypes.toList))=true):joinedFacts P f fn s c=true:=by simp_all [joinedFacts]
theorem pw {c:OpenClaim} {P:Program} (h:P.funcs.toList.any Func.goes=false):false=c.goesBy P:=by
 have hp: ∀ fn∈P.funcs.toList,fn.goes=false:=fun fn hm=>by have:=List.any_eq_false.1 h fn hm;cases hq:fn.goes<;>simp_all
 have ha:P.funcs.any Func.goes=false:=by rw [<-Array.any_toList];exact h
 have hg: ∀ f,P.goes f=false:=fun f=>by
  unfold Program.goes;rw [ha,Bool.and_false,Bool.or_false,List.any_eq_false];intro g _;cases hq:P.funcs[g]? with
  | none=>simp
  | some fn=>
    have:=hp fn (by have:=Array.mem_of_getElem? hq;simpa using this);simp [this]
 have hf: ∀ s,P.goesFrom s=false:=fun s=>by
  unfold Program.goesFrom;cases P.funcNamed s with
  | none=>rfl
  | some f=>simp [hg]
 unfold OpenClaim.goesBy Program.goesAt;rw [hf];cases c.start<;>simp [hg]
end Go.PL
namespace Go.PL
open Go
section
variable {H:Type} {enc:TypeId×Value->H}
theorem w9 {a:Assume} {C:Checked} {os:Os} {f:FuncId} {fn:Func} {s:ChangeSpec} {conds:List PathCond} {apart fresh handsOn again:Bool} {X:World->Array Value->Prop}
 (hX: ∀ (w w':World) (args:Array Value),w.heap=w'.heap->X w args->X w' args)
 (own:ownKnob C.prog.godebug=none) (started:os.Started) (ai6:C.prog.inits.idxOf? f=none) (hfn:C.prog.funcs[f]? =some fn)
 (witness: ∃ (w:World) (tape:Tape) (i:Input),w.os=os/\(w.forCall tape i).Shaped C.prog/\i.vars=[]/\Input.okWide C.prog (w.forCall tape i) .any w.heap.size f i/\
  ((s.pre enc C.prog fn conds apart (w.forCall tape i).memory i.args/\X (w.forCall tape i).memory i.args)/\sizedMet enc C.prog fn (OpenSpec.ofChange s) apart (w.forCall tape i).memory i.args)/\a.holds C.prog (lone (Frame.enter C.prog f i.args .normal) [] (w.forCall tape i)))
 (contract: ∀ (W:World) (base:Nat) (args:Array Value) (ds gs:List (DataW H)) (before:List MemPlace),
  (∀ (j:Nat) t v,fn.params[j]? =some t->args[j]? =some v->Value.okWide C.prog W .any base t v)->
  DataW.Whole enc C.prog fn.params.toList s.vars apart W args.toList ds gs before->
  conds.all (PathCond.test C.prog ⟨fn.params.toList,ds,s.plain.varTypes C.prog,gs⟩)=true->
  (DataW.weightsEach C.prog (fn.params.toList++s.plain.varTypes C.prog) (ds++gs)).all (· <=reachBytes)=true->X W args->W.ShapedOpen C.prog->
  a.holds C.prog (lone (Frame.enter C.prog f args .normal) [] W)->
  Calls C.prog f args W fun e W'=> ∃ v,e= .returned v/\s.post enc C.prog fn apart fresh handsOn again W args v W'):
 ReturnsInHanded a C os f .any (fun w args=>(s.pre enc C.prog fn conds apart w args/\X w args)/\sizedMet enc C.prog fn (OpenSpec.ofChange s) apart w args) (s.post enc C.prog fn apart fresh handsOn again):=by
 refine returnsInHanded_of_calls own started ai6 witness ?_;intro w tape i _ hsh _ hok aaT ajt;obtain⟨_,_,_,fn',auc,_,_,_,_,aex⟩:=hok;have e:fn'=fn:=(by grind);subst e;obtain⟨⟨⟨ds,gs,before,hw,hc⟩,hx⟩,hz⟩:=aaT;have hw':=DataW.Whole.of_heap (w':=w.forCall tape i) (by rfl) hw;refine(contract (w.forCall tape i) w.heap.size i.args ds gs before aex hw' hc (hz.weights hw) (hX _ _ _ (by rfl) hx) hsh ajt).mono fun e W' ⟨v,he,hp⟩=>?_;grind [ChangeSpec.post_blind]
def aX {H:Type} (ss:List (List UInt8)):DataW H:= .agg (ss.map fun s=> .lit (.string s))
theorem W0 {H:Type} {enc:TypeId×Value->H} {P:Program} {w:World} {base:Nat} {sp:Nat->Bool} {held:Bool} {fuel:Nat} {t e:TypeId} {n:Nat} {cs:List Value} {ss:List (List UInt8)} {p:List MemPlace}
 (ht:P.underlying t=some (.array n e)) (he:P.underlying e=some .string) (hce:P.cellsOf e=1) (hct:P.cellsOf t=n)
 (h:DataW.trod enc P w base sp held fuel t cs=some (aX ss,p)):cs=ss.map fun s=>Value.string ⟨s.toArray⟩:=by
 cases fuel with
 | zero=>simp [DataW.trod]at h
 | succ fuel=>
   simp only [DataW.trod,ht,hce,hct,Nat.mul_one]at h;split at h
   ·rename_i hl;obtain⟨xs,hm,hx⟩:=Option.map_eq_some_iff.1 h;have hxs:xs.map (·.1)=ss.map fun s=>(DataW.lit (.string s):DataW H):=by simp_all [aX]
    have hxl:xs.length=n:=by simpa using Lib.mapM_length hm
    have hzl:ss.length=n:=by have:=congrArg List.length hxs;grind
    apply List.ext_getElem?;intro i;by_cases hi:i<n
    ·obtain⟨b,hb,hf⟩:=Lib.mapM_at hm i i (by simp [hi]);obtain⟨z,hc,rfl,_⟩:=DataW.trod_string he hf;have h1:cs[i]? =some (.string z):=by have:=congrArg (·[0]?) hc;grind
     have h2:(xs.map (·.1))[i]? =some (DataW.lit (.string z.data.toList):DataW H):=by simp [hb]
     simp_all
    grind
   ·cases h
theorem OI {P:Program} {W:World} {name:String} {ss:List (List UInt8)} {rest:List (String×DataW Unit)} {g:Nat} {t e:TypeId} {n:Nat}
 (hg:P.globalNamed name=some g) (hty:(P.globals[g]?).map (·.type)=some t) (ht:P.underlying t=some (.array n e)) (he:P.underlying e=some .string) (hce:P.cellsOf e=1) (hct:P.cellsOf t=n)
 (h:laidMet P ((name,aX ss)::rest) W): ∃ T fz,W.heap[g]? =some (.cells (ss.map fun s=>Value.string ⟨s.toArray⟩).toArray T fz):=by
 obtain⟨ps,⟨g',t',cs,fuel,p,q,hg',ht',aje,hd,_,_⟩,_⟩:=h;obtain rfl:=Option.some.inj (hg.symm.trans hg');obtain rfl:=Option.some.inj (hty.symm.trans ht');have hc:=W0 ht he hce hct hd;simp only [World.var?,hg,Option.bind_some]at aje;split at aje
 ·rename_i c T fz hh;injection aje with hv;subst hv;refine⟨T,fz,?_⟩;rw [hh, <-hc]
 grind
end
end Go.PL
