/- Plain laws of games dealt in any state: the reference's moves. -/
import Derived.Test.YteginlijmbcopaaGreatDoorPlBlK
import Derived.Test.YteginlijmbcopaaGreatDoorPlBlL
open List (getElem_mem length_singleton set_set)
namespace Go.PL
open Go
set_option linter.all false
set_option maxRecDepth 100000
set_option maxHeartbeats 1000000
def Mb (s:Aa) (ps:List Ap) (os:List Ae):Aa:=⟨ps,os,s.l_,s.T_,s.Stack,s.o_,s.v_,s.I_,s.k_,s.Step,s.H_,s.Priority,s.Passes,s.f_,s.c_,s.Tw,s.Extra,s.aae,s.z_⟩
theorem Gb.t {s:Aa} (h:Gb s) {ps:List Ap} {os:List Ae} (hp:E8 152 ps) (hl: ∀ p∈ps,E8 8 p.g_/\E8 8 p.Hand/\E8 8 p.AT) (ho:E8 128 os):Gb (Mb s ps os):=⟨hp,hl,ho,h.bf,h.ex,h.st,h.sti,h.wa,h.wai,h.co,h.coi,h.xt⟩
theorem J7 {α:Type} {b n:Nat} {l:List α} (h:l.length<=n) (hb:n*b<=140737488355328):E8 b l:=Nat.le_trans (Nat.mul_le_mul_right _ h) hb
section
variable {s:Aa} {A C:List Ae} {o:Ae} {id:Int}
theorem tF (hO:s.b_=A++o::C) (hl:(A++o::C).length <=100000) (hA: ∀ a∈A,(a.Id==id)=false) (ho:(o.Id==id)=true):Ja s id=some (A.length:Int):=by
 have s1:iter (fun(v:Int)=>Da s id v) FU (0:Int)=some (.inr (A.length:Int)):=by refine tB (A:=A) (C:=C) (o:=o) (p:=fun x=>x.Id==id) (by omega) hA ho fun i hi=>?_;unfold Da;rw [hO,if_pos (by simp at hi ⊢;omega),Al hi,Ay (by omega) (by omega)];grind
 show (iter (fun(v:Int)=>Da s id v) FU (0:Int)).bind _=_;rw [s1];rfl
theorem tG (hl:s.b_.length<=100000) (hA: ∀ a∈s.b_,(a.Id==id)=false):Ja s id=some (-1):=by
 have s1:iter (fun(v:Int)=>Da s id v) FU (0:Int)=some (.inl ()):=by
  refine tC (p:=fun x:Ae=>x.Id==id) (by omega) hA (fun i hi=>?_) ?_
  ·unfold Da;rw [if_pos (S1 hi),Al hi,Ay (by omega) (by omega)];grind
  simp_all [Da]
 show (iter (fun(v:Int)=>Da s id v) FU (0:Int)).bind _=_;rw [s1];rfl
theorem aZ (hO:s.b_=A++o::C) (hl:(A++o::C).length <=100000) (hA: ∀ a∈A,(a.Id==id)=false) (ho:(o.Id==id)=true):L5 s id=some (o,true):=by unfold L5;rw [tF hO hl hA ho];simp_all [Al]
end
theorem Ado {α:Type} {l:List α} {p:α->Bool} {B:Int×List α->Option ((Int×List α)⊕List α)} (hl:l.length<9223372036854775807)
 (hB: ∀ (i:Nat) (h:i<l.length),B ((i:Int),(l.take i).filter p)=some (.inl ((i:Int)+1,(l.take i).filter p++if p l[i]=true then [l[i]]else []))) (hE:B ((l.length:Int),l.filter p)=some (.inr (l.filter p))):iter B FU ((0:Int),[])=some (l.filter p):=by
 refine Ch (fun k=>((k:Int),(l.take k).filter p)) l.length hl (fun i hi=>?_) ?_ rfl
 all_goals grind [List.take_succ]
theorem zp {l:List Int} {id:Int} (hl:l.length<=100000):KC l id=some (l.filter fun x=>x != id):=by
 unfold KC jn;rw [Ado (l:=l) (p:=fun x=>x != id) (by omega) (fun i hi=>?_) ?_]
 ·rfl
 ·simp_all [JW]
 ·dsimp only;unfold JW jn;have hf:((l.take i).filter fun x=>x != id).length <=100000:=(by grind);rw [if_pos (S1 hi)];grind [Al,Ds,maxLen,Nb,N_]
section
variable {s:Aa} {p:Nat}
theorem j4 (h:Gb s) (hp:p<s.a_.length):DO s 1 (p:Int)=some s.a_[p].Hand :=by unfold DO;rw [if_neg (by decide),if_neg (by decide)];simp only [Option.bind_some];rw [if_neg (by simp;omega),if_pos (by decide),Al hp];simp only [Option.bind_some];rw [Ff (h.pl _ (getElem_mem hp)).2.1];rfl
theorem rG (h:Gb s) (hp:p<s.a_.length):DO s 2 (p:Int)=some s.a_[p].g_ :=by unfold DO;rw [if_neg (by decide),if_neg (by decide)];simp only [Option.bind_some];rw [if_neg (by simp;omega),if_neg (by decide),if_pos (by decide),Al hp];simp only [Option.bind_some];rw [Ff (h.pl _ (getElem_mem hp)).1];rfl
theorem zq (h:Gb s) (hp:p<s.a_.length) {l:List Int} (hl:E8 8 l):IP s 1 (p:Int) l=some (Mb s (s.a_.set p {s.a_[p]with Hand:=l}) s.b_):=by unfold IP jn;rw [Xf h];simp only [Option.bind_some];rw [if_neg (by decide),if_neg (by decide)];rw [if_neg (by simp;omega),if_pos (by decide),Al hp,Ff hl];rfl
theorem tH (h:Gb s) (hp:p<s.a_.length) {l:List Int} (hl:E8 8 l):IP s 2 (p:Int) l=some (Mb s (s.a_.set p {s.a_[p]with g_:=l}) s.b_):=by unfold IP jn;rw [Xf h];simp only [Option.bind_some];rw [if_neg (by decide),if_neg (by decide)];rw [if_neg (by simp;omega),if_neg (by decide),if_pos (by decide),Al hp,Ff hl];rfl
variable {A C:List Ae} {o:Ae} {id:Int}
theorem tI {l:List Int} {ps:List Ap} (h:Gb s) (hO:s.b_=A++o::C) (hl:(A++o::C).length <=90000) (hA: ∀ a∈A,(a.Id==id)=false) (ho:(o.Id==id)=true) (hL:DO s o.O_ o.p_=some l) (hl2:l.length<=100000) (hS:IP s o.O_ o.p_ (l.filter fun x=>x != id)=some (Mb s ps s.b_)) (hst: ∀ it∈s.Stack,(it.Kind != 1||it.Id != id)=true):F9 s id=some (Mb s ps (A++C)):=by
 have hlen:(A++o::C).length =A.length+C.length+1:=by simp;omega
 have ls:=h.st.len (by omega);unfold F9 jn;rw [tF hO (by omega) hA ho];simp only [Option.bind_some];rw [Al (by grind),show s.b_[A.length]'(by rw [hO,hlen];omega)=o by simp [hO]];simp only [Option.bind_some];rw [hL];simp only [Option.bind_some];rw [zp hl2];simp only [Option.bind_some];rw [hS];simp only [Option.bind_some];have e1:KS (Mb s ps s.b_).b_ 0 (A.length:Int)=some A:=by show KS s.b_ 0 (A.length:Int)=some A;rw [hO];unfold KS;rw [if_pos (by omega)];simp
 have e2:KS (Mb s ps s.b_).b_ (Ab ((A.length:Int)+(1:Int))) ((Mb s ps s.b_).b_.length :Int)=some C:=by show KS s.b_ (Ab ((A.length:Int)+(1:Int))) (s.b_.length:Int)=some C;rw [N_ (by omega),hO];unfold KS;rw [if_pos (by omega),show ((A.length:Int)+1).toNat =A.length+1 by omega,Int.toNat_natCast,hlen];simp
 rw [e1];simp only [Option.bind_some];rw [(J7 (l:=A) (b:=128) (n:=90000) (by omega) (by decide)).amB (by omega)];simp only [Option.bind_some];rw [e2];simp only [Option.bind_some];rw [Ds ⟨by omega,by unfold maxLen;omega⟩];simp only [Option.bind_some];have hf:s.Stack.filter (fun it=>it.Kind != 1||it.Id != id)=s.Stack:=(by simp_all);rw [Ado (l:=s.Stack) (p:=fun it:AE=>it.Kind != 1||it.Id != id) (by omega) (fun i hi=>?_) ?_]
 ·simp only [Option.bind_some];rw [hf];rfl
 ·dsimp only;unfold Ir;rw [if_neg (by show ¬decide ((s.Stack.length:Int)<(s.Stack.length:Int))=true;simp)]
 ·dsimp only;unfold Ir jn;rw [if_pos (by show decide ((i:Int)<(s.Stack.length:Int))=true;grind)];rw [show (Mb s ps s.b_).Stack =s.Stack from rfl];have hk:=hst _ (getElem_mem hi);simp only [Al hi,Uk,Option.bind_some];have hb:(if s.Stack[i].Kind != 1 then true else(if (s.Stack[i].Kind != 1)==false then s.Stack[i]else default).Id != id)=true:=by grind
  rw [hb,if_pos rfl,if_pos hk];have hsf:(s.Stack.take i).filter (fun it=>it.Kind != 1||it.Id != id)=s.Stack.take i:=(by grind [List.filter_eq_self]);rw [hsf,h.st.tk (by omega) hi];grind [Nf,N_,List.take_succ]
theorem Adp (h:Gb s) {x:Ae} (hn: ∀ y∈s.b_,y.Id<x.Id) (hl:s.b_.length<=90000):Xe s x=some (Mb s s.a_ (s.b_++[x])):=by
 unfold Xe jn;rw [Xf h];simp only [Option.bind_some];rw [show (⟨s.a_,s.b_,s.l_,s.T_,s.Stack,s.o_,s.v_,s.I_,s.k_,s.Step,s.H_,s.Priority,s.Passes,s.f_,s.c_,s.Tw,s.Extra,s.aae,s.z_⟩:Aa)=s from rfl,tG (by omega) (fun a ha=>by have:=hn a ha;simp;omega)];simp only [Option.bind_some];rw [if_neg (by decide)];rw [Ch (s0:=(0:Int)) (fun k=>(k:Int)) (r:=(s.b_.length:Int)) s.b_.length (by omega) (fun i hi=>?_) ?_ rfl]
 ·simp only [Option.bind_some];unfold Z4;have e1:KS s.b_ 0 (s.b_.length:Int)=some s.b_:=by simp_all [KS]
  have e2:KS s.b_ (s.b_.length:Int) (s.b_.length:Int)=some []:=by simp_all [KS]
  rw [e1,e2];simp only [Option.bind_some];rw [h.o.amB (by omega)];simp only [Option.bind_some];rw [Ds ⟨by simp only [length_singleton];omega,by unfold maxLen;simp only [length_singleton];omega⟩];simp only [Option.bind_some];rw [Ds ⟨by simp;omega,by unfold maxLen;simp;omega⟩];simp only [Option.bind_some,List.append_nil];rfl
 ·unfold OC;rw [show decide ((s.b_.length:Int)<(s.b_.length:Int))=false by simp];rfl
 ·unfold OC;rw [S1 hi];have:=hn _ (getElem_mem hi);simp only [Al hi,Uk,Option.bind_some,beq_self_eq_true,if_true];rw [if_pos (by simpa using this),N_ (by omega)];rfl
end
section
variable {s:Aa} {A C:List Ae} {o:Ae} {id:Int} {p:Nat}
theorem tJ {n m a2 a3:Int} (h:a2=1\/a2=2) (hT:o.Token=false):Ph o n a2 a3 m=some (Po n o.aag o.p_ a2 m):=by unfold Ph jn js;rw [hT];rcases h with rfl | rfl<;>rfl
theorem j5 {ps:List Ap} {q:Ap} (hs: ∀ p∈ps,E8 8 p.g_/\E8 8 p.Hand/\E8 8 p.AT) (hq:E8 8 q.g_/\E8 8 q.Hand/\E8 8 q.AT): ∀ x∈ps.set p q,E8 8 x.g_/\E8 8 x.Hand/\E8 8 x.AT:=(by grind)
theorem wd {l:List Int} {q:Int->Bool} (h:E8 8 l):E8 8 (l.filter q):=Nat.le_trans (by grind) h
theorem Acs {ctl:Int} (h:Gb s) (hO:s.b_=A++o::C) (hl:(A++o::C).length <=80000) (hA: ∀ a∈A,(a.Id==id)=false) (ho:o.Id=id) (hp:p<s.a_.length) (hw:o.p_=(p:Int)) (hz:o.O_=2) (hT:o.Token=false)
 (hst: ∀ it∈s.Stack,(it.Kind != 1||it.Id != id)=true) (hL:s.a_[p].g_.length <=90000) (hh:s.a_[p].Hand.length <=90000) (hn: ∀ x∈A++C,x.Id<s.f_) (hb:0<=s.f_/\s.f_<=100000000/\0<=s.c_/\s.c_<=100000000):
 Dx s id 1 ctl false=some (mvS s (s.a_.set p {s.a_[p]with g_:=s.a_[p].g_.filter fun x=>x != id,Hand:=s.a_[p].Hand ++[s.f_]}) (A++C++[Po s.f_ o.aag p 1 s.c_]),s.f_):=by
 have hlen:(A++o::C).length =A.length+C.length+1:=by simp;omega
 have hb':(o.Id==id)=true:=by simp [ho]
 have hpl:=h.pl _ (getElem_mem hp);obtain⟨q,hq⟩: ∃ q:Ap,q={s.a_[p]with g_:=s.a_[p].g_.filter fun x=>x != id}:=⟨_,rfl⟩;have hqL:q.g_=s.a_[p].g_.filter fun x=>x != id:=by rw [hq]
 have hqH:q.Hand=s.a_[p].Hand :=by rw [hq]
 have hqG:q.AT=s.a_[p].AT :=by rw [hq]
 have f1:Gb (Mb s (s.a_.set p q) (A++C)):=h.t (by have:=h.p;grind [E8]) (j5 h.pl (by grind [wd])) (J7 (n:=90000) (by simp;omega) (by decide));have hR:F9 s id=some (Mb s (s.a_.set p q) (A++C)):=tI h hO (by omega) hA hb' (by rw [hz,hw];exact rG h hp) (by omega) (by grind [tH,wd]) hst;obtain⟨s2,hs2⟩: ∃ s2,s2=Mb s (s.a_.set p q) (A++C++[Po s.f_ o.aag o.p_ 1 s.c_]):=⟨_,rfl⟩;have f2:Gb s2:=by rw [hs2];exact h.t f1.p f1.pl (J7 (n:=90001) (by simp;omega) (by decide))
 have hP:s2.a_=s.a_.set p q:=by rw [hs2];rfl
 have hp2:p<s2.a_.length:=by grind
 have hg:s2.a_[p]'hp2=q:=by grind
 unfold Dx jn;rw [aZ hO (by omega) hA hb'];simp only [Option.bind_some];rw [if_neg (by simp),hR];simp only [Option.bind_some];rw [if_neg (by simp [hT]),show (Mb s (s.a_.set p q) (A++C)).f_ =s.f_ from rfl,show (Mb s (s.a_.set p q) (A++C)).c_ =s.c_ from rfl,tJ (.inl rfl) hT];simp only [Option.bind_some];rw [Adp f1 (fun y hy=>hn y hy) (by show (A++C).length <=90000;simp;omega)];rw [show Mb (Mb s (s.a_.set p q) (A++C)) (Mb s (s.a_.set p q) (A++C)).a_ ((Mb s (s.a_.set p q) (A++C)).b_ ++[Po s.f_ o.aag o.p_ 1 s.c_])=s2 from hs2.symm];simp only [Option.bind_some];rw [show (Po s.f_ o.aag o.p_ 1 s.c_).p_ =(p:Int)from hw,j4 f2 hp2,hg,hqH];simp only [Option.bind_some];rw [if_neg (by simp),show (Po s.f_ o.aag o.p_ 1 s.c_).Id =s.f_ from rfl,Ds ⟨by simp only [length_singleton];omega,by unfold maxLen;simp only [length_singleton];omega⟩];simp only [Option.bind_some];unfold MZ;rw [show (Po s.f_ o.aag o.p_ 1 s.c_).p_ =(p:Int)from hw,zq f2 hp2 (J7 (n:=90001) (by simp;omega) (by decide)),hg,hP,set_set];simp only [Option.bind_some];subst hs2;subst hq;show some ((⟨s.a_.set p {s.a_[p]with g_:=s.a_[p].g_.filter fun x=>x != id,Hand:=s.a_[p].Hand ++[s.f_]},A++C++[Po s.f_ o.aag o.p_ 1 s.c_],s.l_,s.T_,s.Stack,s.o_,s.v_,s.I_,s.k_,s.Step,s.H_,s.Priority,s.Passes,Ab (s.f_+1),Ab (s.c_+1),s.Tw,s.Extra,s.aae,s.z_⟩:Aa),s.f_)=_;rw [Ay (by omega) (by omega),Ay (by omega) (by omega),hw];rfl
theorem AfW {ctl:Int} (h:Gb s) (hO:s.b_=A++o::C) (hl:(A++o::C).length <=80000) (hA: ∀ a∈A,(a.Id==id)=false) (ho:o.Id=id) (hp:p<s.a_.length) (hw:o.p_=(p:Int)) (hz:o.O_=1) (hT:o.Token=false)
 (hst: ∀ it∈s.Stack,(it.Kind != 1||it.Id != id)=true) (hL:s.a_[p].g_.length <=90000) (hh:s.a_[p].Hand.length <=90000) (hn: ∀ x∈A++C,x.Id<s.f_) (hb:0<=s.f_/\s.f_<=100000000/\0<=s.c_/\s.c_<=100000000):
 Dx s id 2 ctl false=some (mvS s (s.a_.set p {s.a_[p]with Hand:=s.a_[p].Hand.filter fun x=>x != id,g_:=s.f_::s.a_[p].g_}) (A++C++[Po s.f_ o.aag p 2 s.c_]),s.f_):=by
 have hlen:(A++o::C).length =A.length+C.length+1:=by simp;omega
 have hb':(o.Id==id)=true:=by simp [ho]
 have hpl:=h.pl _ (getElem_mem hp);obtain⟨q,hq⟩: ∃ q:Ap,q={s.a_[p]with Hand:=s.a_[p].Hand.filter fun x=>x != id}:=⟨_,rfl⟩;have hqL:q.g_=s.a_[p].g_ :=by rw [hq]
 have hqH:q.Hand=s.a_[p].Hand.filter fun x=>x != id:=by rw [hq]
 have hqG:q.AT=s.a_[p].AT :=by rw [hq]
 have f1:Gb (Mb s (s.a_.set p q) (A++C)):=h.t (by have:=h.p;grind [E8]) (j5 h.pl (by grind [wd])) (J7 (n:=90000) (by simp;omega) (by decide));have hR:F9 s id=some (Mb s (s.a_.set p q) (A++C)):=tI h hO (by omega) hA hb' (by rw [hz,hw];exact j4 h hp) (by omega) (by grind [zq,wd]) hst;obtain⟨s2,hs2⟩: ∃ s2,s2=Mb s (s.a_.set p q) (A++C++[Po s.f_ o.aag o.p_ 2 s.c_]):=⟨_,rfl⟩;have f2:Gb s2:=by rw [hs2];exact h.t f1.p f1.pl (J7 (n:=90001) (by simp;omega) (by decide))
 have hP:s2.a_=s.a_.set p q:=by rw [hs2];rfl
 have hp2:p<s2.a_.length:=by grind
 have hg:s2.a_[p]'hp2=q:=by grind
 unfold Dx jn;rw [aZ hO (by omega) hA hb'];simp only [Option.bind_some];rw [if_neg (by simp),hR];simp only [Option.bind_some];rw [if_neg (by simp [hT]),show (Mb s (s.a_.set p q) (A++C)).f_ =s.f_ from rfl,show (Mb s (s.a_.set p q) (A++C)).c_ =s.c_ from rfl,tJ (.inr rfl) hT];simp only [Option.bind_some];rw [Adp f1 (fun y hy=>hn y hy) (by show (A++C).length <=90000;simp;omega)];rw [show Mb (Mb s (s.a_.set p q) (A++C)) (Mb s (s.a_.set p q) (A++C)).a_ ((Mb s (s.a_.set p q) (A++C)).b_ ++[Po s.f_ o.aag o.p_ 2 s.c_])=s2 from hs2.symm];simp only [Option.bind_some];rw [show (Po s.f_ o.aag o.p_ 2 s.c_).p_ =(p:Int)from hw,rG f2 hp2,hg,hqL];simp only [Option.bind_some];rw [if_pos (by simp),show (Po s.f_ o.aag o.p_ 2 s.c_).Id =s.f_ from rfl,Ds ⟨by simp only [length_singleton];omega,by unfold maxLen;simp only [length_singleton];omega⟩,List.singleton_append];simp only [Option.bind_some];unfold MZ;rw [show (Po s.f_ o.aag o.p_ 2 s.c_).p_ =(p:Int)from hw,tH f2 hp2 (J7 (n:=90001) (by simp;omega) (by decide)),hg,hP,set_set];simp only [Option.bind_some];subst hs2;subst hq;show some ((⟨s.a_.set p {s.a_[p]with Hand:=s.a_[p].Hand.filter fun x=>x != id,g_:=s.f_::s.a_[p].g_},A++C++[Po s.f_ o.aag o.p_ 2 s.c_],s.l_,s.T_,s.Stack,s.o_,s.v_,s.I_,s.k_,s.Step,s.H_,s.Priority,s.Passes,Ab (s.f_+1),Ab (s.c_+1),s.Tw,s.Extra,s.aae,s.z_⟩:Aa),s.f_)=_;rw [Ay (by omega) (by omega),Ay (by omega) (by omega),hw];rfl
theorem Acu {ctl:Int} (h:Gb s) (hO:s.b_=A++o::C) (hl:(A++o::C).length <=80000) (hA: ∀ a∈A,(a.Id==id)=false) (ho:o.Id=id) (hp:p<s.a_.length) (hw:o.p_=(p:Int)) (hz:o.O_=2) (hT:o.Token=true)
 (hst: ∀ it∈s.Stack,(it.Kind != 1||it.Id != id)=true) (hL:s.a_[p].g_.length <=90000):
 Dx s id 1 ctl false=some (Mb s (s.a_.set p {s.a_[p]with g_:=s.a_[p].g_.filter fun x=>x != id}) (A++C),0):=by
 have hpl:=h.pl _ (getElem_mem hp);unfold Dx jn;rw [aZ hO (by omega) hA (by simp [ho])];simp only [Option.bind_some];rw [if_neg (by simp),tI h hO (by omega) hA (by simp [ho]) (by rw [hz,hw];exact rG h hp) (by omega) (by rw [hz,hw];exact tH h hp (wd hpl.1)) hst];grind
theorem Acv {ctl:Int} (h:Gb s) (hO:s.b_=A++o::C) (hl:(A++o::C).length <=80000) (hA: ∀ a∈A,(a.Id==id)=false) (ho:o.Id=id) (hp:p<s.a_.length) (hw:o.p_=(p:Int)) (hz:o.O_=1) (hT:o.Token=true)
 (hst: ∀ it∈s.Stack,(it.Kind != 1||it.Id != id)=true) (hL:s.a_[p].Hand.length <=90000):
 Dx s id 2 ctl false=some (Mb s (s.a_.set p {s.a_[p]with Hand:=s.a_[p].Hand.filter fun x=>x != id}) (A++C),0):=by
 have hpl:=h.pl _ (getElem_mem hp);unfold Dx jn;rw [aZ hO (by omega) hA (by simp [ho])];simp only [Option.bind_some];rw [if_neg (by simp),tI h hO (by omega) hA (by simp [ho]) (by rw [hz,hw];exact j4 h hp) (by omega) (by rw [hz,hw];exact zq h hp (wd hpl.2.1)) hst];grind
end
end Go.PL
