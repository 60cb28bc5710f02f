/- Plain laws of games dealt in any state: what holds while hands are dealt, by program and reference alike. -/
import Derived.Test.YteginlijmbcopaaGreatDoorPlBlM
namespace Go.PL
open Go
set_option linter.all false
set_option maxRecDepth 100000
set_option maxHeartbeats 1000000
structure PA (os:List Ae) (p z:Int) (l:List Int):Prop where
 nd:l.Nodup
 ob: ∀ id∈l, ∃ o∈os,o.Id=id/\o.p_=p/\o.O_=z
def Asc (os:List Ae):Prop:=os.Pairwise fun a b=>a.Id<b.Id
structure Dk (N:Int) (s:Aa):Prop where
 f:Gb s
 ps:s.a_.length<=4
 ol:s.b_.length<=200
 asc:Asc s.b_
 lt: ∀ o∈s.b_,o.Id<s.f_
 n:0<=s.f_/\s.f_<=N/\0<=s.c_/\s.c_<=N
 pl: ∀ (p:Nat) (h:p<s.a_.length),PA s.b_ p 2 s.a_[p].g_ /\PA s.b_ p 1 s.a_[p].Hand
 sp: ∀ it∈s.Stack,it.Kind=1-> ∃ o∈s.b_,o.Id=it.Id/\o.O_=5
theorem pw1 {α:Type} {r:α->α->Prop}: ∀ {X:List α},X.length<=1->X.Pairwise r
 | [],_=> .nil
 | [_],_=>(by grind)
 | _::_::_,h=>by simp at h
theorem zr: ∀ {l m:List Int},l.Nodup->(∀ x∈l,x∈m)->l.length<=m.length
 | [],m,_,_=>Nat.zero_le _
 | a::l,m,h,hm=>by obtain⟨X,Y,rfl⟩:=List.append_of_mem (hm a (by simp));have h1:=List.nodup_cons.1 h;have:=zr (l:=l) (m:=X++Y) h1.2 (by grind);grind
section
variable {os A C:List Ae} {o:Ae} {p z q y id:Int} {l ws:List Int}
theorem PA.len (h:PA os p z l):l.length<=os.length:=by
 have:=zr (m:=os.map fun o=>o.Id) h.nd fun x hx=>by obtain⟨o,h1,h2, -⟩:=h.ob x hx;grind
 grind
theorem Asc.split (h:Asc os) (ho:o∈os): ∃ A C,os=A++o::C/\(∀ a∈A,a.Id<o.Id)/\ ∀ c∈C,o.Id<c.Id:=by obtain⟨A,C,rfl⟩:=List.append_of_mem ho;obtain⟨h1,h2,h3⟩:=List.pairwise_append.1 h;exact⟨A,C,rfl,(by grind),(by simp_all)⟩
theorem uniq (hA: ∀ a∈A,a.Id<o.Id) (hC: ∀ c∈C,o.Id<c.Id) {x:Ae} (hx:x∈A++o::C) (e:x.Id=o.Id):x=o:=by grind
theorem PA.ahK (h:PA (A++o::C) q y l) (hn:o.Id∉l) (X:List Ae):PA (A++C++X) q y l:=⟨h.nd,fun id hid=>by obtain⟨x,h1,h2,h3⟩:=h.ob id hid;grind⟩
theorem PA.not (hA: ∀ a∈A,a.Id<o.Id) (hC: ∀ c∈C,o.Id<c.Id) (h:PA (A++o::C) q y l) (hne:o.p_=q->o.O_=y->False):o.Id∉l:=fun hm=>by obtain⟨x,h1,h2,h3,h4⟩:=h.ob _ hm;grind
theorem PA.snoc {x:Ae} (h:PA os p z l) (hx:x∈os) (hn:x.Id∉l) (hp:x.p_=p) (hz:x.O_=z):PA os p z (l++[x.Id])/\PA os p z (x.Id::l):=by
 refine⟨⟨?_,fun id hid=>?_⟩,⟨List.nodup_cons.2 ⟨hn,h.nd⟩,fun id hid=>?_⟩⟩
 ·exact List.nodup_append.2 ⟨h.nd,by simp,(by grind)⟩
 ·rcases List.mem_append.1 hid with q | q
  ·exact h.ob id q
  grind
 ·rcases List.mem_cons.1 hid with q | q
  ·grind
  ·exact h.ob id q
end
section
variable {s:Aa} {A C X:List Ae} {o:Ae} {N id:Int} {p:Nat} {ws:List Int} {P:Ap}
theorem Dk.core (d:Dk N s) (hO:s.b_=A++o::C) (hA: ∀ a∈A,a.Id<o.Id) (hC: ∀ c∈C,o.Id<c.Id) (hp:p<s.a_.length) (hw:o.p_=(p:Int)) (hz:o.O_=1\/o.O_=2) (hX: ∀ x∈X,x.Id=s.f_) (hXl:X.length<=1)
 (hP:PA (A++C++X) p 2 P.g_/\PA (A++C++X) p 1 P.Hand) (hG:P.AT=s.a_[p].AT):
 Gb (Mb s (s.a_.set p P) (A++C++X))/\(A++C++X).length <=200/\Asc (A++C++X)/\(∀ x∈A++C++X,x.Id<s.f_\/x∈X)/\
 (∀ (q:Nat) (h:q<(s.a_.set p P).length),PA (A++C++X) q 2 (s.a_.set p P)[q].g_ /\PA (A++C++X) q 1 (s.a_.set p P)[q].Hand)/\ ∀ it∈s.Stack,it.Kind=1-> ∃ x∈A++C++X,x.Id=it.Id/\x.O_=5:=by
 have hol:=d.ol;have hlen:(A++o::C).length =A.length+C.length+1:=by simp;omega
 rw [hO,hlen]at hol;have hl2:(A++C++X).length <=200:=by grind
 have ami: ∀ {l:List Int},l.length<=(A++C++X).length ->E8 8 l:=(by grind [J7]);have hlt:=d.lt;rw [hO]at hlt;refine⟨d.f.t (by have:=d.f.p;grind [E8]) (j5 d.f.pl ⟨ami hP.1.len,ami hP.2.len,hG▸(d.f.pl _ (List.getElem_mem hp)).2.2⟩) (by grind [J7]),hl2,?_,fun x hx=>?_,fun q hq=>?_,fun it hit hk=>?_⟩
 ·have ha:=d.asc;rw [hO]at ha;obtain⟨h1,h2,h3⟩:=List.pairwise_append.1 ha;refine List.pairwise_append.2 ⟨(by grind),?_,fun a ha b hb=>?_⟩
  all_goals grind [pw1]
 ·grind
 ·have hq':q<s.a_.length:=by grind
  by_cases e:p=q
  ·grind
  ·rw [List.getElem_set_ne e];have:=d.pl q hq';rw [hO]at this;have hne: ¬((p:Int)=(q:Int)):=by omega
   exact⟨this.1.ahK (this.1.not hA hC (by grind)) X,this.2.ahK (this.2.not hA hC (by grind)) X⟩
 ·obtain⟨x,h1,h2,h3⟩:=d.sp it hit hk;grind
theorem Dk.next (d:Dk N s) (hO:s.b_=A++o::C) (hA: ∀ a∈A,a.Id<o.Id) (hC: ∀ c∈C,o.Id<c.Id) (hp:p<s.a_.length) (hw:o.p_=(p:Int)) (hz:o.O_=1\/o.O_=2):
 (∀ {x:Ae} {P:Ap},x.Id=s.f_->(PA (A++C++[x]) p 2 P.g_/\PA (A++C++[x]) p 1 P.Hand)->P.AT=s.a_[p].AT ->Dk (N+1) (mvS s (s.a_.set p P) (A++C++[x])))/\
 ∀ {P:Ap},(PA (A++C) p 2 P.g_/\PA (A++C) p 1 P.Hand)->P.AT=s.a_[p].AT ->Dk (N+1) (Mb s (s.a_.set p P) (A++C)):=by
 have hn:=d.n;refine⟨fun hx hP hG=>?_,fun hP hG=>?_⟩
 ·obtain⟨f,k1,k2,k3,k4,k5⟩:=d.core hO hA hC hp hw hz (X:=[_]) (by grind) (by simp) hP hG;exact⟨⟨f.p,f.pl,f.o,f.bf,f.ex,f.st,f.sti,f.wa,f.wai,f.co,f.coi,f.xt⟩,by simpa [mvS] using d.ps,k1,k2,fun y hy=>by
   show y.Id<s.f_+1;rcases k3 y hy with h | h
   all_goals grind,by show 0<=s.f_+1/\s.f_+1<=N+1/\0<=s.c_+1/\s.c_+1<=N+1;omega,k4,k5⟩
 ·have e:A++C++[]=A++C:=List.append_nil _;obtain⟨f,k1,k2,k3,k4,k5⟩:=d.core hO hA hC hp hw hz (X:=[]) (by simp) (by simp) (by grind) hG;rw [e]at f k1 k2 k3 k4 k5;exact⟨f,by simpa [Mb] using d.ps,k1,k2,fun y hy=>(k3 y hy).resolve_right (by simp),by show 0<=s.f_/\s.f_<=N+1/\0<=s.c_/\s.c_<=N+1;omega,k4,k5⟩
end
end Go.PL
