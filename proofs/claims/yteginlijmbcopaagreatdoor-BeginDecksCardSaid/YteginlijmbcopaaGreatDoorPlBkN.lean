/- Plain laws of games that begin: hands drawn, returned, decided about. -/
import Derived.Test.YteginlijmbcopaaGreatDoorPlBkM
namespace Go.PL
open Go
set_option linter.all false
set_option maxRecDepth 100000
set_option maxHeartbeats 1000000
section
variable {c:Az} {s:Aa} {p:Nat}
theorem Gk.lens (g:Gk c s) (hp:p<s.bk.length):s.bk[p].q_.length <=900/\s.bk[p].Hand.length <=900:=by obtain⟨l,h,e,h1,h2⟩:=g.pl p hp;have i1:=g.ad4 (by rw [<-g.len];exact hp) 1;have i2:=g.ad4 (by rw [<-g.len];exact hp) 2;rw [<-h1.length_eq]at i2;rw [<-h2.length_eq]at i1;grind
theorem Gk.ape (g:Gk c s) (hp:p<s.bk.length):D9 s 2 (p:Int)=some s.bk[p].q_ :=by
 have h0:(if decide ((p:Int)<0) then true else decide ((s.bk.length:Int)<=p))=false:=by simp;omega
 unfold D9 jn;simp only [h0,Option.bind_some,AD hp];show (Ap s.bk[p].q_).bind _=_;rw [ZB (by have:=(g.lens hp).1;omega)];rfl
theorem Gk.apf (g:Gk c s) (hp:p<s.bk.length):D9 s 1 (p:Int)=some s.bk[p].Hand :=by
 have h0:(if decide ((p:Int)<0) then true else decide ((s.bk.length:Int)<=p))=false:=by simp;omega
 unfold D9 jn;simp only [h0,Option.bind_some,AD hp];show (Ap s.bk[p].Hand).bind _=_;rw [ZB (by have:=(g.lens hp).2;omega)];rfl
theorem xc (hp:p<c.h_.length) {k:Nat} (hk:k<=7): ∀ (r i N:Nat) {s:Aa},i+r=k->r<N->Gk c s->s.g_+r<=1000000->
 ∃ s',iter (fun(v:Int×Aa)=>DF (p:Int) (k:Int) v.1 v.2) N ((i:Int),s)=some s'/\Gk c s'/\s'.g_<=s.g_+r:=by
 intro r;induction r with
 | zero=>
   intro i N s hi hN g hn;obtain⟨N,rfl⟩: ∃ M,N=M+1:=⟨N - 1,by omega⟩;simp_all [BD,DF]
 | succ r ih=>
   intro i N s hi hN g hn;obtain⟨N,rfl⟩: ∃ M,N=M+1:=⟨N - 1,by omega⟩;have hp':p<s.bk.length:=by rw [g.len];exact hp
   have hls:=g.ape hp';cases hL:s.bk[p].q_ with
   | nil=>
     rw [hL]at hls;refine⟨s,BD ?_,g,by omega⟩;simp_all [DF]
   | cons x xs=>
     rw [hL]at hls;obtain⟨s1,e1,g1,n1,_⟩:=g.draw (ctl:=(p:Int)) hp' (by omega) hL;obtain⟨s2,k1,k2,k3⟩:=ih (i+1) N (s:=s1) (by omega) (by omega) g1 (by omega);refine⟨s2,?_,k2,by omega⟩;rw [Cc (s':=(((i+1:Nat):Int),s1))]
     ·exact k1
     ·show DF (p:Int) (k:Int) (i:Int) _=_;unfold DF;rw [if_pos (by simp;omega),hls];simp only [Option.bind_some];rw [if_neg (by simp;omega),show idx (x::xs) 0=some x from AD (k:=0) (by simp)];simp only [Option.bind_some];rw [e1,Ao (by omega) (by omega)];rfl
theorem drawn (hp:p<c.h_.length) {k:Nat} (hk:k<=7) (g:Gk c s) (hn:s.g_<=900000): ∃ s',IP s (p:Int) (k:Int)=some s'/\Gk c s'/\s'.g_<=s.g_+7:=by obtain⟨s',h1,h2,h3⟩:=xc hp hk k 0 FU (s:=s) (by omega) (by unfold FU;omega) g (by omega);refine⟨s',?_,h2,by omega⟩;unfold IP jn;rw [show ((0:Nat):Int)=0 from rfl]at h1;rw [h1];rfl
theorem AdV (hp:p<c.h_.length) {r6:List Int} (hr:r6.length<=1000): ∀ (r i N:Nat) {s:Aa},i+r=r6.length->r<N->Gk c s->(∀ h:p<s.bk.length,s.bk[p].Hand =r6.drop i)->s.g_+r<=1000000->
 ∃ s',iter (fun(v:Int×Aa)=>C2 (p:Int) r6 v.1 v.2) N ((i:Int),s)=some s'/\Gk c s'/\s'.g_<=s.g_+r:=by
 intro r;induction r with
 | zero=>
   intro i N s hi hN g hh hn;obtain⟨N,rfl⟩: ∃ M,N=M+1:=⟨N - 1,by omega⟩;simp_all [BD,C2]
 | succ r ih=>
   intro i N s hi hN g hh hn;obtain⟨N,rfl⟩: ∃ M,N=M+1:=⟨N - 1,by omega⟩;have hil:i<r6.length:=by omega
   have hp':p<s.bk.length:=by rw [g.len];exact hp
   have hd:r6.drop i=r6[i]::r6.drop (i+1):=(by simp_all);have hL:=hh hp';rw [hd]at hL;obtain⟨s1,e1,g1,n1,_,hh1⟩:=g.back (ctl:=(p:Int)) hp' (by omega) hL;obtain⟨s2,k1,k2,k3⟩:=ih (i+1) N (s:=s1) (by omega) (by omega) g1 (fun _=>hh1) (by omega);refine⟨s2,?_,k2,by omega⟩;rw [Cc (s':=(((i+1:Nat):Int),s1))]
   ·exact k1
   ·show C2 (p:Int) r6 (i:Int) _=_;unfold C2;rw [if_pos (by simp;omega),AD hil];simp only [Option.bind_some];rw [e1,Ao (by omega) (by omega)];rfl
theorem Gk.set (g:Gk c s) (hp:p<s.bk.length) {l:List Int} (hl:l.Perm s.bk[p].q_) (q:Int): ∃ s',Sx s 2 (p:Int) l=some s'/\Gk c {s' with ab2:=q}/\s'.g_=s.g_:=by
 have hln:=(g.lens hp).1;refine⟨{s with bk:=s.bk.set p {s.bk[p]with q_:=l}},?_,?_,rfl⟩
 ·unfold Sx jn;rw [g.copy];simp only [Option.bind_some];have h0:(if decide ((p:Int)<0) then true else decide ((s.bk.length:Int)<=p))=false:=by simp;omega
  simp only [h0,Option.bind_some,AD hp];show (Ap l).bind _=_;rw [ZB (by rw [hl.length_eq];omega)];simp only [Option.bind_some];refine(nb (by omega)).trans ?_;rfl
 ·refine⟨g.n,g.m,g.e1,g.e2,g.e3,g.e4,g.e5,g.e6,g.a1,g.a2,g.a3,g.a4,g.a5,g.a6,g.a7,by show (s.bk.set _ _).length =_;rw [List.length_set];exact g.len,fun q hq=>?_,g.ob,g.asc,g.cnt,g.d4,g.d5,g.ol⟩;have hq':q<s.bk.length:=by grind
  show Pok s.b_ (q:Int) ((s.bk.set p {s.bk[p]with q_:=l})[q]'(by grind));by_cases e:p=q
  ·subst e;rw [List.getElem_set_self];obtain⟨l',h,e1,h1,h2⟩:=g.pl p hp;refine⟨l,h,by rw [e1],hl.trans ?_,h2⟩;grind
  ·rw [List.getElem_set_ne e];exact g.pl q hq'
theorem returned (hp:p<c.h_.length) (g:Gk c s) (hn:s.g_<=900000): ∃ s',EX s (p:Int)=some s'/\Gk c s'/\s'.g_<=s.g_+1000:=by
 have hp':p<s.bk.length:=by rw [g.len];exact hp
 obtain⟨hl1,hl2⟩:=g.lens hp';obtain⟨s1,h1,g1,n1⟩:=AdV hp (r6:=s.bk[p].Hand) (by omega) s.bk[p].Hand.length 0 FU (s:=s) (by omega) (by unfold FU;omega) g (fun _=>by simp) (by omega);have hp1:p<s1.bk.length:=by rw [g1.len];exact hp
 obtain⟨q2,l3,e3,p3⟩:=Aap (l:=s1.bk[p].q_) (s:=s1.ab2) (by have:=(g1.lens hp1).1;omega);obtain⟨s2,e2,g2,n2⟩:=g1.set hp1 p3 q2;refine⟨{s2 with ab2:=q2},?_,g2,by grind⟩;unfold EX jn;rw [g.apf hp'];simp only [Option.bind_some];rw [show ((0:Nat):Int)=0 from rfl]at h1;rw [h1];simp only [Option.bind_some];unfold Lw;rw [g1.ape hp1];grind
end
end Go.PL
