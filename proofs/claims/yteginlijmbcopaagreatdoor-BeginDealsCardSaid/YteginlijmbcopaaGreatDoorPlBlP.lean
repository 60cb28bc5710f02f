/- Plain laws of games dealt in any state: cards drawn, hands returned, by program and reference alike. -/
import Derived.Test.YteginlijmbcopaaGreatDoorPlBlN
namespace Go.PL
open Go
set_option linter.all false
set_option maxRecDepth 100000
set_option maxHeartbeats 1000000
section
variable {s:Aa} {N:Int} {p:Nat}
theorem Dk.mono {M:Int} (d:Dk N s) (h:N<=M):Dk M s:={d with n:=by have:=d.n;omega}
theorem Dk.lens (d:Dk N s) (hp:p<s.a_.length):s.a_[p].g_.length <=200/\s.a_[p].Hand.length <=200:=⟨Nat.le_trans (d.pl p hp).1.len d.ol,Nat.le_trans (d.pl p hp).2.len d.ol⟩
theorem Dk.spl (d:Dk N s) {z id:Int} {l:List Int} (h:PA s.b_ p z l) (hid:id∈l) (hz:z=1\/z=2): ∃ A C o,s.b_=A++o::C/\o.Id=id/\o.p_=(p:Int)/\o.O_=z/\(∀ a∈A,a.Id<o.Id)/\(∀ c∈C,o.Id<c.Id)/\
 (∀ it∈s.Stack,(it.Id==id&&it.Kind==1)=false)/\(∀ it∈s.Stack,(it.Kind != 1||it.Id != id)=true)/\(∀ a∈A,(a.Id==id)=false)/\(A++o::C).length <=200/\(A++C).length <=200/\ ∀ x∈A++C,x.Id<s.f_:=by
 obtain⟨o,h1,h2,h3,h4⟩:=h.ob id hid;obtain⟨A,C,hO,hA,hC⟩:=d.asc.split h1;have hs: ∀ it∈s.Stack,it.Kind=1->it.Id ≠ id:=fun it hit hk e=>by obtain⟨x,k1,k2,k3⟩:=d.sp it hit hk;rw [hO]at k1;have:=uniq hA hC k1 (by rw [k2,e,h2]);subst this;omega
 have hol:=d.ol;rw [hO]at hol;have hlt:=d.lt;rw [hO]at hlt;refine⟨A,C,o,hO,h2,h3,h4,hA,hC,fun it hit=>?_,fun it hit=>?_,fun a ha=>by have:=hA a ha;simp;omega,hol,by simp at hol ⊢;omega,fun x hx=>hlt x (by grind)⟩
 ·have:=hs it hit;by_cases k:it.Kind=1
  ·simp [this k]
  ·simp [k]
 ·have:=hs it hit;by_cases k:it.Kind=1
  ·simp [this k]
  ·simp [k]
theorem Adq {id:Int} {ws:List Int} (h:(id::ws).Nodup):(id::ws).filter (fun x=>x != id)=ws:=by
 have h1:=(List.nodup_cons.1 h).1;rw [List.filter_cons,if_neg (by simp),List.filter_eq_self.2 fun x hx=>by simp only [bne_iff_ne,ne_eq];rintro rfl;exact h1 hx]
theorem PA.tail {os:List Ae} {q z id:Int} {ws:List Int} (h:PA os q z (id::ws)):PA os q z ws:=⟨(List.nodup_cons.1 h.nd).2,fun i hi=>h.ob i (by simp [hi])⟩
theorem Dk.draw (d:Dk N s) (hp:p<s.a_.length) (hN:N<=10000000) {id:Int} {ws:List Int} (hL:s.a_[p].g_ =id::ws):
 ∃ s' n,EW s id 1 (p:Int) false=some (s',n)/\Dx s id 1 (p:Int) false=some (s',n)/\Dk (N+1) s'/\s'.a_.length=s.a_.length:=by
 obtain⟨h2,h1⟩:=d.pl p hp;obtain⟨l2,l1⟩:=d.lens hp;have hps:=d.ps;have hn:=d.n;rw [hL]at h2;obtain⟨A,C,o,hO,o1,o2,o3,hA,hC,st1,st2,hA',q1,q2,q3⟩:=d.spl (id:=id) h2 (by simp) (.inr rfl);have hwo:Ci s.a_[p].g_ id=some ws:=by rw [hL];exact tD (A:=[]) (C:=ws) (by rw [hL]at l2;simpa using (by simp at l2;omega)) (by simpa using h2.nd)
 have hf:s.a_[p].g_.filter (fun x=>x != id)=ws:=by rw [hL];exact Adq h2.nd
 have pre:=(Adm (ctl:=(p:Int)) (z:=1) (ws:=ws) (.inl rfl) (Xg d.f) hO (by omega) hA' o1 hp o2 (by have:=d.f.st.len (by omega);omega) st1 (by omega)).1 o3 hwo;have k1:o.Id∉ws:=by rw [o1];exact(List.nodup_cons.1 h2.nd).1
 have k2:o.Id∉s.a_[p].Hand :=(hO▸h1:PA (A++o::C) p 1 _).not hA hC fun _ h=>by omega
 have s2:=fun X=>(hO▸h2.tail:PA (A++o::C) p 2 ws).ahK k1 X;have s1:=fun X=>(hO▸h1:PA (A++o::C) p 1 _).ahK k2 X;have hnx:=d.next hO hA hC hp o2 (.inr o3);cases hT:o.Token with
 | false=>
   have e1:=Ajg (ctl:=(p:Int)) (q:={s.a_[p]with g_:=ws}) hT (by omega) hp (by omega) o2 (by show s.a_[p].Hand.length <=_;omega) q3 (by omega);have e2:=Acs (ctl:=(p:Int)) d.f hO (by omega) hA' o1 hp o2 o3 hT st2 (by omega) (by omega) q3 (by omega);rw [hf]at e2;have hm:s.f_∉s.a_[p].Hand :=fun h=>by obtain⟨x,x1,x2, -⟩:=h1.ob _ h;have:=d.lt x x1;omega
   refine⟨_,_,pre.trans e1,e2,hnx.1 (x:=Po s.f_ o.aag p 1 s.c_) (P:={s.a_[p]with g_:=ws,Hand:=s.a_[p].Hand ++[s.f_]}) rfl ⟨s2 _,?_⟩ rfl,by simp [mvS]⟩;exact((s1 [Po s.f_ o.aag p 1 s.c_]).snoc (x:=Po s.f_ o.aag p 1 s.c_) (by simp) hm rfl rfl).1
 | true=>
   have e2:=Acu (ctl:=(p:Int)) d.f hO (by omega) hA' o1 hp o2 o3 hT st2 (by omega);rw [hf]at e2;refine⟨_,_,pre.trans (AhK (.inl rfl) hT),e2,hnx.2 (P:={s.a_[p]with g_:=ws}) ⟨by simpa using s2 [],by simpa using s1 []⟩ rfl,by simp [Mb]⟩
theorem Dk.back (d:Dk N s) (hp:p<s.a_.length) (hN:N<=10000000) {id:Int} {ws:List Int} (hL:s.a_[p].Hand =id::ws):
 ∃ s' n,EW s id 2 (p:Int) false=some (s',n)/\Dx s id 2 (p:Int) false=some (s',n)/\Dk (N+1) s'/\s'.a_.length=s.a_.length/\ ∀ h:p<s'.a_.length,s'.a_[p].Hand =ws:=by
 obtain⟨h2,h1⟩:=d.pl p hp;obtain⟨l2,l1⟩:=d.lens hp;have hps:=d.ps;have hn:=d.n;rw [hL]at h1;obtain⟨A,C,o,hO,o1,o2,o3,hA,hC,st1,st2,hA',q1,q2,q3⟩:=d.spl (id:=id) h1 (by simp) (.inl rfl);have hwo:Ci s.a_[p].Hand id=some ws:=by rw [hL];exact tD (A:=[]) (C:=ws) (by rw [hL]at l1;simpa using (by simp at l1;omega)) (by simpa using h1.nd)
 have hf:s.a_[p].Hand.filter (fun x=>x != id)=ws:=by rw [hL];exact Adq h1.nd
 have pre:=(Adm (ctl:=(p:Int)) (z:=2) (ws:=ws) (.inr rfl) (Xg d.f) hO (by omega) hA' o1 hp o2 (by have:=d.f.st.len (by omega);omega) st1 (by omega)).2 o3 hwo;have k1:o.Id∉ws:=by rw [o1];exact(List.nodup_cons.1 h1.nd).1
 have k2:o.Id∉s.a_[p].g_ :=(hO▸h2:PA (A++o::C) p 2 _).not hA hC fun _ h=>by omega
 have s1:=fun X=>(hO▸h1.tail:PA (A++o::C) p 1 ws).ahK k1 X;have s2:=fun X=>(hO▸h2:PA (A++o::C) p 2 _).ahK k2 X;have hnx:=d.next hO hA hC hp o2 (.inl o3);cases hT:o.Token with
 | false=>
   have e1:=Ajh (ctl:=(p:Int)) (q:={s.a_[p]with Hand:=ws}) hT (by omega) hp (by omega) o2 (by show s.a_[p].g_.length <=_;omega) q3 (by omega);have e2:=AfW (ctl:=(p:Int)) d.f hO (by omega) hA' o1 hp o2 o3 hT st2 (by omega) (by omega) q3 (by omega);rw [hf]at e2;have hm:s.f_∉s.a_[p].g_ :=fun h=>by obtain⟨x,x1,x2, -⟩:=h2.ob _ h;have:=d.lt x x1;omega
   refine⟨_,_,pre.trans e1,e2,hnx.1 (x:=Po s.f_ o.aag p 2 s.c_) (P:={s.a_[p]with Hand:=ws,g_:=s.f_::s.a_[p].g_}) rfl ⟨?_,s1 _⟩ rfl,by simp [mvS],fun h=>by simp [mvS]⟩;exact((s2 [Po s.f_ o.aag p 2 s.c_]).snoc (x:=Po s.f_ o.aag p 2 s.c_) (by simp) hm rfl rfl).2
 | true=>
   have e2:=Acv (ctl:=(p:Int)) d.f hO (by omega) hA' o1 hp o2 o3 hT st2 (by omega);rw [hf]at e2;refine⟨_,_,pre.trans (AhK (.inr rfl) hT),e2,hnx.2 (P:={s.a_[p]with Hand:=ws}) ⟨by simpa using s2 [],by simpa using s1 []⟩ rfl,by simp [Mb],fun h=>by simp [Mb]⟩
theorem Dk.atQ (d:Dk N s) (hp:p<s.a_.length):DU s 2 (p:Int)=some s.a_[p].g_ :=by
 have h0:(if decide ((p:Int)<0) then true else decide ((s.a_.length:Int)<=p))=false:=by simp;omega
 unfold DU jn;simp only [h0,Option.bind_some,Al hp];show (Ao s.a_[p].g_).bind _=_;rw [UO (by have:=(d.lens hp).1;omega)];rfl
theorem Dk.aq9 (d:Dk N s) (hp:p<s.a_.length):DU s 1 (p:Int)=some s.a_[p].Hand :=by
 have h0:(if decide ((p:Int)<0) then true else decide ((s.a_.length:Int)<=p))=false:=by simp;omega
 unfold DU jn;simp only [h0,Option.bind_some,Al hp];show (Ao s.a_[p].Hand).bind _=_;rw [UO (by have:=(d.lens hp).2;omega)];rfl
theorem zs {k:Nat} (hk:k<=7): ∀ (r i M:Nat) {N:Int} {s:Aa},i+r=k->r<M->Dk N s->N+r<=9000000->p<s.a_.length->
 ∃ s',iter (fun(v:Int×Aa)=>CP (p:Int) (k:Int) v.1 v.2) M ((i:Int),s)=some s'/\iter (fun(v:Int×Aa)=>EF (p:Int) (k:Int) v.1 v.2) M ((i:Int),s)=some s'/\Dk (N+r) s'/\s'.a_.length=s.a_.length:=by
 intro r;induction r with
 | zero=>
   intro i M N s hi hM d hN hp;obtain⟨M,rfl⟩: ∃ m,M=m+1:=⟨M - 1,by omega⟩;refine⟨s,A8 ?_,A8 ?_,d.mono (by omega),rfl⟩
   ·simp_all [CP]
   ·simp_all [EF,gd]
 | succ r ih=>
   intro i M N s hi hM d hN hp;obtain⟨M,rfl⟩: ∃ m,M=m+1:=⟨M - 1,by omega⟩;have hls:=d.atQ hp;have hik:decide ((i:Int)<(k:Int))=true:=by simp;omega
   cases hL:s.a_[p].g_ with
   | nil=>
     rw [hL]at hls;refine⟨s,A8 ?_,A8 ?_,d.mono (by omega),rfl⟩
     ·show CP (p:Int) (k:Int) (i:Int) s=_;unfold CP;rw [hik,hls];rfl
     ·show EF (p:Int) (k:Int) (i:Int) s=_;unfold EF;rw [hik,Al hp];simp only [Uk,Option.bind_some,hL,beq_self_eq_true,if_true];rfl
   | cons x xs=>
     rw [hL]at hls;obtain⟨s1,n1,e1,e2,d1,c1⟩:=d.draw hp (by omega) hL;obtain⟨s2,k1,k2,k3,k4⟩:=ih (i+1) M (s:=s1) (by omega) (by omega) d1 (by omega) (by omega);refine⟨s2,?_,?_,k3.mono (by push_cast;omega),k4.trans c1⟩
     ·rw [BZ (s':=(((i+1:Nat):Int),s1))]
      ·exact k1
      ·show CP (p:Int) (k:Int) (i:Int) _=_;unfold CP;rw [hik,if_pos rfl,hls];simp only [Option.bind_some];rw [if_neg (by simp;omega),show idx (x::xs) 0=some x from Al (k:=0) (by simp)];simp only [Option.bind_some];rw [e1,Ay (by omega) (by omega)];rfl
     ·rw [BZ (s':=(((i+1:Nat):Int),s1))]
      ·exact k2
      ·show EF (p:Int) (k:Int) (i:Int) _=_;unfold EF;rw [hik,Al hp];simp only [Uk,Option.bind_some,hL,beq_self_eq_true,if_true];rw [if_pos (by simp),show idx (x::xs) 0=some x from Al (k:=0) (by simp)];simp only [Option.bind_some];rw [e2,Ay (by omega) (by omega)];rfl
theorem drawn (d:Dk N s) (hp:p<s.a_.length) {k:Nat} (hk:k<=7) (hN:N<=8000000): ∃ s',Ib s (p:Int) (k:Int)=some s'/\L7 s (p:Int) (k:Int)=some s'/\Dk (N+7) s'/\s'.a_.length=s.a_.length:=by
 obtain⟨s',h1,h2,h3,h4⟩:=zs hk k 0 FU (s:=s) (by omega) (by unfold FU;omega) d (by omega) hp;rw [show ((0:Nat):Int)=0 from rfl]at h1 h2;refine⟨s',?_,?_,h3.mono (by omega),h4⟩
 ·unfold Ib jn;rw [h1];rfl
 ·unfold L7 jn;rw [h2];rfl
theorem AfX {r6:List Int} (hr:r6.length<=1000): ∀ (r i M:Nat) {N:Int} {s:Aa},i+r=r6.length->r<M->Dk N s->(∀ h:p<s.a_.length,s.a_[p].Hand =r6.drop i)->N+r<=9000000->p<s.a_.length->
 ∃ s',iter (fun(v:Int×Aa)=>CQ (p:Int) r6 v.1 v.2) M ((i:Int),s)=some s'/\iter (fun(v:Int×Aa)=>GM (p:Int) r6 v.1 v.2) M ((i:Int),s)=some s'/\Dk (N+r) s'/\s'.a_.length=s.a_.length:=by
 intro r;induction r with
 | zero=>
   intro i M N s hi hM d hh hN hp;obtain⟨M,rfl⟩: ∃ m,M=m+1:=⟨M - 1,by omega⟩;refine⟨s,A8 ?_,A8 ?_,d.mono (by omega),rfl⟩
   ·simp_all [CQ]
   ·simp_all [GM]
 | succ r ih=>
   intro i M N s hi hM d hh hN hp;obtain⟨M,rfl⟩: ∃ m,M=m+1:=⟨M - 1,by omega⟩;have hil:i<r6.length:=by omega
   have hL:=hh hp;rw [List.drop_eq_getElem_cons hil]at hL;obtain⟨s1,n1,e1,e2,d1,c1,hh1⟩:=d.back hp (by omega) hL;obtain⟨s2,k1,k2,k3,k4⟩:=ih (i+1) M (s:=s1) (by omega) (by omega) d1 hh1 (by omega) (by omega);refine⟨s2,?_,?_,k3.mono (by push_cast;omega),k4.trans c1⟩
   ·rw [BZ (s':=(((i+1:Nat):Int),s1))]
    ·exact k1
    ·show CQ (p:Int) r6 (i:Int) _=_;unfold CQ;rw [if_pos (by simp;omega),Al hil];simp only [Option.bind_some];rw [e1,Ay (by omega) (by omega)];rfl
   ·rw [BZ (s':=(((i+1:Nat):Int),s1))]
    ·exact k2
    ·show GM (p:Int) r6 (i:Int) _=_;unfold GM;rw [if_pos (by simp;omega),Al hil];simp only [Option.bind_some];rw [e2,Ay (by omega) (by omega)];rfl
theorem Dk.set (d:Dk N s) (hp:p<s.a_.length) {l:List Int} (hl:l.Perm s.a_[p].g_) (q:Int):SD s 2 (p:Int) l=some (Mb s (s.a_.set p {s.a_[p]with g_:=l}) s.b_)/\Dk N {Mb s (s.a_.set p {s.a_[p]with g_:=l}) s.b_ with Tw:=q}:=by
 have hln:=(d.lens hp).1;have hll:=hl.length_eq;refine⟨?_,?_⟩
 ·unfold SD jn;rw [Xg d.f];simp only [Option.bind_some];have h0:(if decide ((p:Int)<0) then true else decide ((s.a_.length:Int)<=p))=false:=by simp;omega
  simp only [h0,Option.bind_some,Al hp];show (Ao l).bind _=_;rw [UO (by omega)];simp only [Option.bind_some];refine(nb (by omega)).trans ?_;rfl
 ·have hpl:=d.f.pl _ (List.getElem_mem hp);have f:=d.f.t (ps:=s.a_.set p {s.a_[p]with g_:=l}) (os:=s.b_) (by have:=d.f.p;unfold E8 at this ⊢;simpa using this) (j5 d.f.pl ⟨J7 (n:=200) (show l.length<=200 by omega) (by decide),hpl.2.1,hpl.2.2⟩) d.f.o;refine⟨⟨f.p,f.pl,f.o,f.bf,f.ex,f.st,f.sti,f.wa,f.wai,f.co,f.coi,f.xt⟩,by simpa [Mb] using d.ps,d.ol,d.asc,d.lt,d.n,fun q hq=>?_,d.sp⟩;have hq':q<s.a_.length:=by simpa [Mb] using hq
  show PA s.b_ (q:Int) 2 ((s.a_.set p {s.a_[p]with g_:=l})[q]'(by simpa using hq')).g_ /\PA s.b_ (q:Int) 1 ((s.a_.set p {s.a_[p]with g_:=l})[q]'(by simpa using hq')).Hand;by_cases e:p=q
  ·subst e;rw [List.getElem_set_self];have:=d.pl p hp;exact⟨⟨hl.nodup_iff.2 this.1.nd,fun id hid=>this.1.ob id (hl.subset hid)⟩,this.2⟩
  ·rw [List.getElem_set_ne e];exact d.pl q hq'
theorem returned (d:Dk N s) (hp:p<s.a_.length) (hN:N<=8000000): ∃ s',EE s (p:Int)=some s'/\J4 s (p:Int)=some s'/\Dk (N+1000) s'/\s'.a_.length=s.a_.length:=by
 obtain⟨hl1,hl2⟩:=d.lens hp;obtain⟨s1,h1,h1',g1,n1⟩:=AfX (p:=p) (r6:=s.a_[p].Hand) (by omega) s.a_[p].Hand.length 0 FU (s:=s) (by omega) (by unfold FU;omega) d (fun _=>by simp) (by omega) hp;have hp1:p<s1.a_.length:=by omega
 have hll:=(g1.lens hp1).1;obtain⟨q2,l3,e3,p3⟩:=Aje (l:=s1.a_[p].g_) (s:=s1.Tw) (by omega);obtain⟨e2,g2⟩:=g1.set hp1 p3 q2;have e3':=shR (l:=s1.a_[p].g_) s1.Tw (by omega);rw [show ((0:Nat):Int)=0 from rfl]at h1 h1';refine⟨_,?_,?_,g2.mono (by omega),by simpa [Mb] using n1⟩
 ·unfold EE jn;rw [d.aq9 hp];simp only [Option.bind_some];rw [h1];simp only [Option.bind_some];unfold KK;rw [g1.atQ hp1];simp only [Option.bind_some];rw [e3];simp only [Option.bind_some];rw [e2];rfl
 ·unfold J4 jn;rw [j4 d.f hp];simp only [Option.bind_some];rw [h1'];simp only [Option.bind_some];unfold V3;rw [Al hp1];simp only [Option.bind_some];rw [e3',e3];simp only [Option.bind_some];rw [tH g1.f hp1 (J7 (n:=200) (by have:=p3.length_eq;omega) (by decide))];rfl
end
end Go.PL
