/- Plain laws of states: whether a state is valid, and whether it is small, is always answered. -/
import Derived.Test.YtekonfaeacligaaGreatDoorPlRcA
open List (getElem_mem getElem_of_mem)
namespace Go.PL
open Go
set_option linter.all false
set_option maxRecDepth 100000
set_option maxHeartbeats 1000000
theorem AdL {σ ρ:Type} {B:σ->Option (σ⊕ρ)} {s:σ} {r:ρ} (h:B s=some (.inr r)):iter B FU s=some r:=by show iter B (9223372036854775806+1) s=_;rw [B6 h]
theorem Afi {β:Type} {B:Int->Option (Int⊕(Unit⊕β))} (n:Nat) (hn:n<9223372036854775807) (hB: ∀ i:Nat,i<n->B (i:Int)=some (.inl ((i:Int)+1))) (hE:B (n:Int)=some (.inr (.inl ()))):iter B FU 0=some (.inl ()):=
 L4 (fun i=>(i:Int)) n hn (by grind) hE rfl
section
variable {α:Type}
theorem AdM {A C:List α} {o:α} {p:α->Bool} {B:Int->Option (Int⊕(Unit⊕Int))} (hl:(A++o::C).length <9223372036854775807) (hA: ∀ a∈A,p a=false) (ho:p o=true)
 (hB: ∀ (i:Nat) (h:i<(A++o::C).length),B (i:Int)=some (if p (A++o::C)[i]=true then .inr (.inr (i:Int))else .inl ((i:Int)+1))):iter B FU 0=some (.inr (A.length:Int)):=by
 have Tw:A.length<(A++o::C).length :=by simp
 refine L4 (fun i=>(i:Int)) A.length (by omega) (fun i hi=>?_) ?_ rfl
 all_goals grind
theorem AdN {l:List α} {p:α->Bool} {B:Int->Option (Int⊕(Unit⊕Int))} (hl:l.length<9223372036854775807) (hA: ∀ a∈l,p a=false)
 (hB: ∀ (i:Nat) (h:i<l.length),B (i:Int)=some (if p l[i]=true then .inr (.inr (i:Int))else .inl ((i:Int)+1))) (hE:B (l.length:Int)=some (.inr (.inl ()))):iter B FU 0=some (.inl ()):=by
 refine L4 (fun i=>(i:Int)) l.length (by omega) (fun i hi=>?_) hE rfl;grind
end
def Pw {α:Type} (b:Nat) (l:List α):Prop:=l.length*b<=140737488355328
theorem Pw.len {α:Type} {b:Nat} {l:List α} (h:Pw b l) (hb:1<=b):l.length<=140737488355328:=Nat.le_trans (Nat.le_mul_of_pos_right _ hb) h
theorem Pw.apV {α:Type} {b:Nat} {l:List α} (h:Pw b l) (hb:1<=b):app b [] l=some l:=by have:=h.len hb;grind [dq,Pw,maxLen]
structure lh (a:AB):Prop where
 m:Pw 176 a.N_
 s:Pw 144 a.aam
 e:Pw 560 a.B_
 em: ∀ e∈a.B_,Pw 176 e.N_
structure WE (s:AF):Prop where
 p:Pw 152 s.e_
 pl: ∀ p∈s.e_,Pw 8 p.aaV/\Pw 8 p.Hand/\Pw 8 p.aaF
 o:Pw 128 s.b_
 bf:Pw 8 s.Tl
 ex:Pw 8 s.ac5
 st:Pw 824 s.Stack
 sti: ∀ x∈s.Stack,lh x.Tf/\Pw 16 x.aaU
 wa:Pw 768 s.Td
 wai: ∀ x∈s.Td,lh x.Tf
 co:Pw 80 s.aae
 coi: ∀ x∈s.aae,Pw 8 x.b_/\Pw 176 x.N_
 xt:Pw 8 s.Extra
theorem WF {l:List Int} (h:Pw 8 l):FN l=some l:=by unfold FN;rw [h.apV (by omega)];rfl
theorem ib {n:Nat} {i:Nat} (h:i<n):decide ((i:Int)<(n:Int))=true:=by grind
section
variable {s:AF} {A C:List Ba} {o:Ba} {id:Int}
theorem xP (hO:s.b_=A++o::C) (hl:(A++o::C).length <=100000) (hA: ∀ a∈A,(a.Id==id)=false) (ho:(o.Id==id)=true):Mp s id=some (A.length:Int):=by
 have s1:iter (fun(v:Int)=>Ct s id v) FU (0:Int)=some (.inr (A.length:Int)):=by refine AdM (A:=A) (C:=C) (o:=o) (p:=fun x=>x.Id==id) (by omega) hA ho fun i hi=>?_;unfold Ct;rw [hO,if_pos (by simp at hi ⊢;omega),AV hi,A1 (by omega) (by omega)];grind
 show (iter (fun(v:Int)=>Ct s id v) FU (0:Int)).bind _=_;rw [s1];rfl
theorem xQ (hl:s.b_.length<=100000) (hA: ∀ a∈s.b_,(a.Id==id)=false):Mp s id=some (-1):=by
 have s1:iter (fun(v:Int)=>Ct s id v) FU (0:Int)=some (.inl ()):=by
  refine AdN (p:=fun x:Ba=>x.Id==id) (by omega) hA (fun i hi=>?_) ?_
  ·unfold Ct;rw [if_pos (ib hi),AV hi,A1 (by omega) (by omega)];grind
  simp_all [Ct]
 show (iter (fun(v:Int)=>Ct s id v) FU (0:Int)).bind _=_;rw [s1];rfl
theorem AbQ (hO:s.b_=A++o::C) (hl:(A++o::C).length <=100000) (hA: ∀ a∈A,(a.Id==id)=false) (ho:(o.Id==id)=true):LH s id=some (o,true):=by unfold LH;rw [xP hO hl hA ho];simp_all [AV]
end
def Asc (os:List Ba):Prop:=os.Pairwise fun a b=>a.Id<b.Id
abbrev Sh {α:Type} (l:List α):Prop:=l.length<9223372036854775807
theorem Pw.sh {α:Type} {b:Nat} {l:List α} (h:Pw b l) (hb:1<=b):Sh l:=by have:=h.len hb;grind
theorem uu {β:Type} {B:Int->Option (Int⊕(Unit⊕β))} {c:β} {P:Nat->Prop} (n:Nat) (hn:n<9223372036854775807) (hB: ∀ i:Nat,i<n->(B (i:Int)=some (.inl ((i:Int)+1))/\P i)\/B (i:Int)=some (.inr (.inr c))) (hE:B (n:Int)=some (.inr (.inl ()))):
 (iter B FU 0=some (.inl ())/\ ∀ i<n,P i)\/iter B FU 0=some (.inr c):=by
 have key: ∀ m:Nat,m<=n->(∀ i<m,B ((i:Nat):Int)=some (.inl ((i:Int)+1))/\P i)\/ ∃ k<m,(∀ i<k,B ((i:Nat):Int)=some (.inl ((i:Int)+1)))/\B (k:Int)=some (.inr (.inr c)):=by intro m;induction m<;>grind
 rcases key n (Nat.le_refl n)with h | ⟨k,h1,h2,h3⟩
 ·grind [Afi]
 ·exact .inr (L4 (fun i=>(i:Int)) k (by omega) h2 h3 rfl)
def An (o:Option Bool) (P:Prop):Prop:= ∃ b,o=some b/\(b=true->P)
theorem An.rt {b:Bool} {P:Prop} (h:b=true->P):An (some b) P:=⟨b,rfl,h⟩
theorem An.no {P:Prop}:An (some false) P:=⟨false,rfl,fun h=>by cases h⟩
theorem An.t {o:Option Bool} {P:Prop} (h:An o P):T o:=by obtain⟨b,h1, -⟩:=h;grind
theorem An.lp {B:Int->Option (Int⊕(Unit⊕Bool))} {K:Unit->Option Bool} {P:Nat->Prop} {Q:Prop} (n:Nat) (hn:n<9223372036854775807) (hB: ∀ i:Nat,i<n->(B (i:Int)=some (.inl ((i:Int)+1))/\P i)\/B (i:Int)=some (.inr (.inr false))) (hE:B (n:Int)=some (.inr (.inl ())))
 (hK:(∀ i<n,P i)->An (K ()) Q):An ((iter B FU 0).bind (Sum.elim (fun _=>K ()) (fun o1=>some o1))) Q:=by
 rcases uu n hn hB hE with ⟨h1,h2⟩ | h1
 all_goals grind [An.no]
theorem inE (a b d:Int):Ds a b d=some (decide (b<=a/\a<=d)):=by grind [Ds]
theorem xR (a:A6 Int):T (Mo a):=by unfold Mo jn;refine(An.lp (K:=fun _=>O0) (P:=fun _=>True) (Q:=True) 6 (by omega) (fun i hi=>?_) (by kernel_rfl) (fun _=>An.rt fun _=>trivial)).t;unfold O1;rw [if_pos (by simp;omega)];obtain⟨e,he⟩: ∃ e,idx a.l (i:Int)=some e:=⟨_,AV (l:=a.l) (show i<6 from hi)⟩;grind [SE,Ta]
theorem AdO (a:A3 Int):T (bl a):=by unfold bl jn;refine(An.lp (K:=fun _=>Y4) (P:=fun _=>True) (Q:=True) 3 (by omega) (fun i hi=>?_) (by kernel_rfl) (fun _=>An.rt fun _=>trivial)).t;unfold Y5;rw [if_pos (by simp;omega)];obtain⟨e,he⟩: ∃ e,idx a.l (i:Int)=some e:=⟨_,AV (l:=a.l) (show i<3 from hi)⟩;grind [SE,Ta]
theorem AdP {l:List Int} (hl:Sh l):T (Wd l):=by
 have hw:W (Wd l) (fun _=>True):=by
  unfold Wd jn;refine W.it (fun v:Int=>1<=v/\v<=9223372036854775806) (fun v=>((l.length:Int) - v).toNat) (by omega) (by grind) (fun v hv=>?_);unfold Y6;refine W.if (fun hi=>?_) (fun _=>W.ex ⟨_,rfl,trivial⟩)
  simp only [decide_eq_true_eq]at hi;unfold Sh at hl;rw [A1 (x:=v - 1) (by omega) (by omega),A1 (x:=v+1) (by omega) (by omega)];refine W.bd (W.idx (by omega)) (fun a _=>W.bd (W.idx (by omega)) (fun b _=>W.if (fun _=>W.ex ⟨_,rfl,trivial⟩) (fun _=>W.nx (by omega) (by omega))))
 exact⟨_,hw.choose_spec.1⟩
theorem uv {l:List Int} {x:Int} (hl:Sh l):Jf l x=some ((l.count x:Nat):Int):=by
 have hit:iter (fun(v:Int×Int)=>EA l x v.1 v.2) FU ((0:Int),(0:Int))=some ((l.count x:Nat):Int):=by
  refine L4 (fun i=>((((l.take i).count x:Nat):Int),(i:Int))) l.length hl (fun i hi=>?_) ?_ (by simp)
  ·have hc:(l.take i).count x<=i:=(by grind [List.count_le_length]);unfold Sh at hl;show EA l x _ (i:Int)=_;unfold EA jn;rw [if_pos (ib hi),AV hi];simp only [Option.bind_some];rw [List.take_succ_eq_append_getElem hi,List.count_append,List.count_singleton];by_cases e:l[i]=x
   ·rw [if_pos (by simp [e]),if_pos (by simp [e])];grind [Iw,A1]
   ·rw [if_neg (by simp [e]),if_neg (by simp [e])];grind [Iw,A1]
  simp_all [EA]
 unfold Jf jn;rw [hit];rfl
theorem uw {s:AF} {x:Int} (hl:Sh s.Stack):T (Hz s x):=by
 have hw:W (Hz s x) (fun _=>True):=by
  unfold Hz jn;refine W.it (fun v:Int×Int=>0<=v.2/\v.2<=s.Stack.length) (fun v=>((s.Stack.length:Int) - v.2).toNat) (by simp) (by grind) (fun v hv=>?_);obtain⟨n,i⟩:=v;dsimp only at hv ⊢;unfold Sh at hl;have hJ: ∀ n,i<s.Stack.length->W (Hy i n) (LQ (fun v:Int×Int=>0<=v.2/\v.2<=s.Stack.length) (fun v=>((s.Stack.length:Int) - v.2).toNat) (n,i) (fun r=>W (MV r) (fun _=>True))):=(by grind [Hy,A1,W.nx]);unfold MW jn;refine W.if (fun hi=>?_) (fun _=>W.ex ⟨_,rfl,trivial⟩)
  simp only [decide_eq_true_eq]at hi;refine W.bd (W.idx (by omega)) (fun a _=>W.gb (fun _=>W.idx (by omega)) (fun b _=>W.lt fun c _=>W.if (fun _=>?_) (fun _=>?_)))
  ·exact hJ _ hi
  grind
 exact⟨_,hw.choose_spec.1⟩
theorem ux {α:Type} (p:α->Bool): ∀ l:List α,(∀ a∈l,p a=false)\/ ∃ A o C,l=A++o::C/\p o=true/\ ∀ a∈A,p a=false
 | []=>(by grind)
 | a::l=>by
   cases h:p a with
   | true=>exact .inr ⟨[],a,l,rfl,h,fun a h=>by cases h⟩
   | false=>
     rcases ux p l with q | ⟨A,o,C,q1,q2,q3⟩
     all_goals grind
section
variable {s:AF}
theorem AdQ (hl:s.b_.length<=100000) (id:Int): ∃ r,HC s id=some r/\(r.2=true->r.1∈s.b_/\r.1.Id=id):=by
 unfold HC;rcases ux (fun x:Ba=>x.Id==id) s.b_ with h | ⟨A,o,C,h1,h2,h3⟩
 ·simp_all [LH,xQ]
 ·refine⟨(o,true),?_,(by grind)⟩;grind [AbQ]
def Lk (os:List Ba) (z p:Int) (l:List Int):Prop:=l.Nodup/\ ∀ id∈l, ∃ o∈os,o.Id=id/\o.F_=z/\(0<=p->o.acK=p)
theorem gU (ho:s.b_.length<=100000) {l:List Int} (hl:Sh l) (z p:Int):An (FP s l z p) (Lk s.b_ z p l):=by
 have hB: ∀ i:Nat,i<l.length->(FO s l z p (i:Int)=some (.inl ((i:Int)+1))/\ ∀ h:i<l.length,l.count l[i]=1/\ ∃ o∈s.b_,o.Id=l[i]/\o.F_=z/\(0<=p->o.acK=p))\/FO s l z p (i:Int)=some (.inr (.inr false)):=fun i hi=>by obtain⟨⟨o,b⟩,h1,h2⟩:=AdQ ho l[i];dsimp only at h2;unfold FO;rw [if_pos (ib hi),AV hi];simp only [Option.bind_some,h1,uv hl,SE];rw [Ta (by grind)];grind
 unfold FP jn;rcases uu l.length hl hB (by simp_all [FO])with ⟨h1,h2⟩ | h1
 ·rw [h1];refine⟨true,rfl,fun _=>⟨List.nodup_iff_count.2 fun a=>?_,fun id hid=>?_⟩⟩
  ·by_cases ha:a∈l
   ·obtain⟨i,hi,rfl⟩:=getElem_of_mem ha;grind
   grind
  ·obtain⟨i,hi,rfl⟩:=getElem_of_mem hid;grind
 ·rw [h1];exact An.no
end
theorem ttE (c:Bool):(if c then true else true)=true:=by grind
theorem An.if {c:Bool} {a b:Option Bool} {P:Prop} (ha:An a P) (hb:An b P):An (if c then a else b) P:=by grind
section
variable {s:AF}
theorem uy (f:WE s) (ho:s.b_.length<=100000):An (Ih s) ((2<=s.e_.length/\s.e_.length<=4)/\ ∀ p:Nat,p<s.e_.length-> ∀ h:p<s.e_.length,Lk s.b_ 2 p s.e_[p].aaV /\Lk s.b_ 1 p s.e_[p].Hand):=by
 unfold Ih jn;rw [inE];simp only [Option.bind_some];by_cases hl:(2:Int)<=s.e_.length/\(s.e_.length:Int)<=4
 ·rw [if_neg (by simp;omega)];refine An.lp (K:=fun _=>HE s) (P:=fun p=> ∀ h:p<s.e_.length,Lk s.b_ 2 p s.e_[p].aaV /\Lk s.b_ 1 p s.e_[p].Hand) s.e_.length (by omega) (fun i hi=>?_) ?_ (fun hP=>?_)
  ·have fp:=f.pl _ (getElem_mem hi);obtain⟨w,hw⟩:=xR s.e_[i].aa_;obtain⟨b1,h1,k1⟩:=gU ho (fp.1.sh (by decide)) 2 (i:Int);obtain⟨b2,h2,k2⟩:=gU ho (fp.2.1.sh (by decide)) 1 (i:Int);obtain⟨b3,h3, -⟩:=gU ho (fp.2.2.sh (by decide)) 3 (i:Int);unfold FV;rw [if_pos (ib hi),AV hi];simp only [Option.bind_some,inE,hw,h1,h2,h3,SE];rw [Ta (by omega)];grind
  ·unfold FV;grind
  ·obtain⟨b1,h1, -⟩:=gU ho (f.bf.sh (by decide)) 0 (-1);obtain⟨b2,h2, -⟩:=gU ho (f.ex.sh (by decide)) 4 (-1);grind [HE,SE,An.rt]
 ·rw [if_pos (by simp;omega)];exact An.no
theorem AdR (f:WE s) (z p:Int): ∃ l,O3 s z p=some l/\Sh l:=by
 unfold O3;by_cases h0:(z==0)=true
 ·rw [if_pos h0,WF f.bf];exact⟨_,rfl,f.bf.sh (by decide)⟩
 rw [if_neg h0];by_cases h4:(z==4)=true
 ·rw [if_pos h4,WF f.ex];exact⟨_,rfl,f.ex.sh (by decide)⟩
 rw [if_neg h4];simp only [Option.bind_some];by_cases hp:0<=p/\p<s.e_.length
 ·obtain⟨i,rfl⟩: ∃ i:Nat,p=i:=⟨p.toNat,by omega⟩;have hi:i<s.e_.length:=by omega
  have fp:=f.pl _ (getElem_mem hi);rw [if_neg (by simp;omega)];simp only [AV hi,Option.bind_some,WF fp.1,WF fp.2.1,WF fp.2.2];split
  ·exact⟨_,rfl,fp.2.1.sh (by decide)⟩
  split
  ·exact⟨_,rfl,fp.1.sh (by decide)⟩
  split
  ·exact⟨_,rfl,fp.2.2.sh (by decide)⟩
  grind
 ·rw [if_pos (by by_cases q:p<0<;>simp [q];omega)];grind
theorem xS (f:WE s) (o:Ba):T (JW s o):=by obtain⟨l,h1,h2⟩:=AdR f o.F_ o.acK;obtain⟨n,hn⟩:=uw (x:=o.Id) (f.st.sh (by decide));unfold JW;simp only [h1,hn,uv h2,Option.bind_some];exact iO ⟨_,rfl⟩ ⟨_,rfl⟩
theorem isT (o:Ba) (a b:Int):T (bw o a b):=by
 obtain⟨c,hc⟩:=AdO o.Counters;unfold bw Wc QH;simp only [hc]
 repeat' (first | with_reducible exact Ts | refine iO ?_ ?_ | refine Tb ?_ (fun _=>?_) | refine Tg ?_)
theorem AdS {os:List Ba} (h: ∀ i:Nat, ∀ h:i+1<os.length,os[i].Id <os[i+1].Id):Asc os:=by
 have key: ∀ d i:Nat, ∀ h:i+d+1<os.length,os[i].Id <os[i+d+1].Id :=by intro d;induction d<;>grind
 refine List.pairwise_iff_getElem.2 fun i j hi hj hij=>?_;have:=key (j - i - 1) i (by omega);grind
theorem uz (f:WE s) (adD:List A4):An (Ig adD s) (Asc s.b_/\ ∀ o∈s.b_,o.Id<s.aaE):=by
 unfold Ig jn;by_cases hl:(2048:Int)<s.b_.length
 ·simp_all [An.no]
 rw [if_neg (by simpa using hl)];refine An.lp (K:=fun _=>LN) (P:=fun i=> ∀ h:i<s.b_.length,s.b_[i].Id <s.aaE/\(0<i->s.b_[i - 1].Id <s.b_[i].Id)) s.b_.length (by omega) (fun i hi=>?_) ?_ (fun hP=>An.rt fun _=>⟨AdS fun i hi=>?_,fun o ho=>?_⟩)
 ·obtain⟨r,hr⟩:=isT s.b_[i] adD.length s.e_.length;obtain⟨q,hq⟩:=xS f s.b_[i];have he: ∃ e,(0<i->e=s.b_[i - 1].Id)/\EF adD s (i:Int)=(if(if(if(if(!r)=true then true else decide (s.aaE<=s.b_[i].Id))=true then true else decide (s.Ti<=s.b_[i].abC))=true then true else if decide ((0:Int)<i)=true then decide (s.b_[i].Id <=e)else false) then some (.inr (.inr false))else if !q then some (.inr (.inr false))else some (.inl ((i:Int)+1))):=by
   unfold EF;rw [if_pos (ib hi),AV hi];simp only [Option.bind_some,hr,hq];rw [Ta (by omega)];by_cases h0:0<i
   ·rw [A1 (by omega) (by omega),show ((i:Int) - 1)=((i - 1:Nat):Int) by omega,AV (by omega)];simp only [SE,Option.bind_some];generalize (if(if(!r)=true then true else decide (s.aaE<=s.b_[i].Id)) then true else decide (s.Ti<=s.b_[i].abC))=c;simp_all
   ·obtain rfl:i=0:=by omega
    refine⟨0,fun h=>by omega,?_⟩;rw [show decide ((0:Int)<((0:Nat):Int))=false from rfl];generalize (if(if(!r)=true then true else decide (s.aaE<=s.b_[0].Id)) then true else decide (s.Ti<=s.b_[0].abC))=c;cases c<;>rfl
  grind
 ·unfold EF;grind
 ·grind
 ·obtain⟨i,hi,rfl⟩:=getElem_of_mem ho;grind
theorem AbS (l:List BG):T (EB l []):=by
 cases l with
 | nil=>exact⟨true,by kernel_rfl⟩
 | cons a l=>exact⟨false,by unfold EB;grind⟩
theorem AbT (l:List AI):T (Gk l []):=by
 cases l with
 | nil=>exact⟨true,by kernel_rfl⟩
 | cons a l=>exact⟨false,by unfold Gk;grind⟩
theorem AbU (a b:AB) (h1:b.aam=[]) (h2:b.N_=[]) (h3:b.B_=[]):T (LP a b):=by
 have hJ:T (LO a b):=by obtain⟨x,hx⟩:=AbS a.N_;obtain⟨y,hy⟩:=AbT a.B_;unfold LO;rw [h2,h3];simp only [hx,hy,SE,Option.bind_some];grind
 cases hs:a.aam with
 | nil=>
   simp_all [LP,jn,AdL,O9]
 | cons x l=>exact⟨false,by unfold LP;grind⟩
theorem lh.len {a:AB} (h:lh a):xK a:=⟨h.s.sh (by decide),h.e.sh (by decide)⟩
theorem Mw (a:Int):CB s a=some (decide (0<=a/\a<=Aj ((s.e_.length:Int) - 1))):=by unfold CB;rw [inE];rfl
def Spl (s:AF) (x:MP):Prop:=x.Kind=1-> ∃ o∈s.b_,o.Id=x.Id/\o.F_=5
theorem AdT (ho:s.b_.length<=100000) {x:MP} (h:lh x.Tf):An (Pp s x) (Spl s x):=by
 obtain⟨⟨o,b⟩,h1,h2⟩:=AdQ ho x.Id;dsimp only at h2;unfold Pp;obtain⟨y,hy⟩:=AbU x.Tf (⟨(0:Int),(⟨(0:Int),(0:Int),(0:Int),(0:Int),(0:Int),(0:Int),(0:Int),[],(0:Int),(0:Int),(⟨(0:Int),(0:Int)⟩:Ag),(⟨(0:Int),(0:Int)⟩:Ag),(⟨(0:Int),(0:Int)⟩:Ag)⟩:Am),([]:List (BG)),(⟨(⟨(0:Int),(0:Int),(⟨(0:Int),(0:Int),(0:Int),(0:Int),(0:Int)⟩:A5 (Int))⟩:AJ),false,false,(0:Int)⟩:CL),false,(⟨(0:Int),(0:Int),(⟨(0:Int),(0:Int),(0:Int),(0:Int),(0:Int),(0:Int),(0:Int),[],(0:Int),(0:Int),(⟨(0:Int),(0:Int)⟩:Ag),(⟨(0:Int),(0:Int)⟩:Ag),(⟨(0:Int),(0:Int)⟩:Ag)⟩:Am)⟩:Bu),false,([]:List (Dr)),([]:List (AI)),(⟨(0:Int),(0:Int),(⟨(0:Int),(0:Int),(0:Int),(0:Int),(0:Int),(0:Int),(0:Int),[],(0:Int),(0:Int),(⟨(0:Int),(0:Int)⟩:Ag),(⟨(0:Int),(0:Int)⟩:Ag),(⟨(0:Int),(0:Int)⟩:Ag)⟩:Am),(0:Int),(0:Int),(0:Int),(0:Int)⟩:Bk)⟩:AB) rfl rfl rfl;simp only [inE,Mw,h1,hy,uj h.len,SE,Option.bind_some];refine An.if An.no ?_
 split
 ·rename_i hk;by_cases hb:b=true
  ·by_cases hz:o.F_=5
   ·exact An.rt fun _ _=>⟨o,(h2 hb).1,(h2 hb).2,hz⟩
   grind [An.rt]
  grind [An.rt]
 ·rename_i hk;exact An.rt fun _ k=>absurd (by simpa using k) hk
theorem AbV (f:WE s) (ho:s.b_.length<=100000):An (Mv s) (∀ x∈s.Stack,Spl s x):=by
 have l1:Sh s.Stack:=f.st.sh (by decide);have l2:Sh s.Td:=f.wa.sh (by decide);have l3:Sh s.aae:=f.co.sh (by decide);unfold Sh at l1 l2 l3;have t5:T (Gr s):=by
  unfold Gr jn;refine(An.lp (K:=fun _=>Pr) (P:=fun _=>True) (Q:=True) s.aae.length l3 (fun i hi=>?_) ?_ (fun _=>An.rt fun _=>trivial)).t
  ·have fc:=f.coi _ (getElem_mem hi);obtain⟨a,ha⟩:=AdP (l:=s.aae[i].b_) (fc.1.sh (by decide));obtain⟨w,hw, -⟩:=WC s.aae[i].N_;unfold IH;rw [if_pos (ib hi),AV hi];simp only [Option.bind_some,Mw,inE,ha,hw,SE];rw [Ta (by omega)];grind
  simp_all [IH]
 have t4:T (Gs s):=by
  unfold Gs jn;refine(An.lp (K:=fun _=>Gr s) (P:=fun _=>True) (Q:=True) s.Td.length l2 (fun i hi=>?_) ?_ (fun _=>by obtain⟨b,hb⟩:=t5;exact⟨b,hb,fun _=>trivial⟩)).t
  ·unfold II;rw [if_pos (ib hi),AV hi];simp only [Option.bind_some,Mw,uj (f.wai _ (getElem_mem hi)).len,SE];rw [Ta (by omega)];grind
  simp_all [II]
 unfold Mv jn;simp only [Option.bind_some];refine An.if An.no ?_
 refine An.lp (K:=fun _=>Gs s) (P:=fun i=> ∀ h:i<s.Stack.length,Spl s s.Stack[i]) s.Stack.length l1 (fun i hi=>?_) ?_ (fun hP=>?_)
 ·obtain⟨b,h1,h2⟩:=AdT ho (f.sti _ (getElem_mem hi)).1;unfold IJ jn;rw [if_pos (ib hi),AV hi];simp only [Option.bind_some,h1];cases hb:b with
  | false=>grind
  | true=>
    rw [if_neg (by simp)];rcases uu (B:=fun v=>Fn s (i:Int) v) (c:=false) (P:=fun _=>True) i (by omega) (fun k hk=>by unfold Fn;rw [if_pos (by simp;omega),AV (show k<s.Stack.length by omega),AV hi];simp only [Option.bind_some];rw [Ta (by omega)];grind) (by simp_all [Fn])with ⟨q, -⟩ | q
    ·grind [MY,Ta]
    grind
 ·unfold IJ;grind
 ·obtain⟨b,hb⟩:=t4;refine⟨b,hb,fun _ x hx=>?_⟩;obtain⟨i,hi,rfl⟩:=getElem_of_mem hx;grind
theorem AbW (f:WE s) (adD:List A4):An (bK adD s) True:=by
 unfold bK jn;by_cases ho:s.b_.length<=100000
 case neg=>
  simp only [inE,SE,Option.bind_some];rw [show decide ((2048:Int)<(s.b_.length:Int))=true by simp;omega,if_pos (ttE _)];exact An.no
 obtain⟨b1,h1,k1⟩:=uy f ho;obtain⟨b2,h2,k2⟩:=uz f adD;obtain⟨b3,h3,k3⟩:=AbV f ho;have hx:Sh s.Extra:=f.xt.sh (by decide);unfold Sh at hx;simp only [inE,Mw,h1,SE,Option.bind_some];by_cases q1:1<=s.aaE/\s.aaE<=1000000
 case neg=>rw [if_pos (by simp [q1])];exact An.no
 by_cases q2:1<=s.Ti/\s.Ti<=1000000
 case neg=>rw [if_pos (by simp [q1,q2])];exact An.no
 refine An.if An.no ?_
 cases hb1:b1 with
 | false=>simp_all [An.no]
 | true=>
   obtain⟨⟨m1,m2⟩,m3⟩:=k1 hb1;by_cases q3:0<=s.acq/\s.acq<=Aj ((s.e_.length:Int) - 1)
   case neg=>rw [if_pos (by simp [q3])];exact An.no
   refine An.if An.no ?_
   refine An.lp (K:=fun _=>NN adD s) (P:=fun _=>True) s.Extra.length hx (fun i hi=>?_) ?_ (fun _=>?_)
   ·unfold NO;rw [if_pos (ib hi),AV hi];simp only [Option.bind_some,Mw];rw [Ta (by omega)];grind
   ·unfold NO;grind
   ·unfold NN;simp only [Mw,h2,h3,SE,Option.bind_some];refine An.if An.no ?_
    exact An.rt fun _=>trivial
end
end Go.PL
