/- Plain laws of states: whether a state is valid is always answered, and what a valid one is known for. -/
import Derived.Test.YteginlijmbcopaaGreatDoorPlBlR
open List (getElem_mem)
namespace Go.PL
open Go
set_option linter.all false
set_option maxRecDepth 100000
set_option maxHeartbeats 1000000
theorem ttE (c:Bool):(if c then true else true)=true:=by grind
theorem gIf {γ:Type} {c:Bool} {a b x y:γ} {P:Prop} (ha:(a=x/\P)\/a=y) (hb:(b=x/\P)\/b=y):((if c then a else b)=x/\P)\/(if c then a else b)=y:=by grind
theorem An.if {c:Bool} {a b:Option Bool} {P:Prop} (ha:An a P) (hb:An b P):An (if c then a else b) P:=by grind
section
variable {s:Aa}
theorem zE (f:Gb s) (ho:s.b_.length<=100000):An (KJ s) ((2<=s.a_.length/\s.a_.length<=4)/\ ∀ p:Nat,p<s.a_.length-> ∀ h:p<s.a_.length,Lk s.b_ 2 p s.a_[p].g_ /\Lk s.b_ 1 p s.a_[p].Hand):=by
 unfold KJ jn;rw [inE];simp only [Option.bind_some];by_cases hl:(2:Int)<=s.a_.length/\(s.a_.length:Int)<=4
 ·rw [if_neg (by simp;omega)];refine An.lp (K:=fun _=>J3 s) (P:=fun p=> ∀ h:p<s.a_.length,Lk s.b_ 2 p s.a_[p].g_ /\Lk s.b_ 1 p s.a_[p].Hand) s.a_.length (by omega) (fun i hi=>?_) ?_ (fun hP=>?_)
  ·have fp:=f.pl _ (getElem_mem hi);obtain⟨w,hw⟩:=AcB s.a_[i].ab7;obtain⟨b1,h1,k1⟩:=oa ho (fp.1.sh (by decide)) 2 (i:Int);obtain⟨b2,h2,k2⟩:=oa ho (fp.2.1.sh (by decide)) 1 (i:Int);obtain⟨b3,h3, -⟩:=oa ho (fp.2.2.sh (by decide)) 3 (i:Int);unfold Is;rw [if_pos (S1 hi),Al hi];simp only [Option.bind_some,inE,hw,h1,h2,h3,Uk];rw [N_ (by omega)];grind
  ·unfold Is;grind
  ·obtain⟨b1,h1, -⟩:=oa ho (f.bf.sh (by decide)) 0 (-1);obtain⟨b2,h2, -⟩:=oa ho (f.ex.sh (by decide)) 4 (-1);grind [J3,Uk,An.rt]
 ·rw [if_pos (by simp;omega)];exact An.no
theorem AhW (f:Gb s) (z p:Int): ∃ l,DO s z p=some l/\Sh l:=by
 unfold DO;by_cases h0:(z==0)=true
 ·rw [if_pos h0,Ff f.bf];exact⟨_,rfl,f.bf.sh (by decide)⟩
 rw [if_neg h0];by_cases h4:(z==4)=true
 ·rw [if_pos h4,Ff f.ex];exact⟨_,rfl,f.ex.sh (by decide)⟩
 rw [if_neg h4];simp only [Option.bind_some];by_cases hp:0<=p/\p<s.a_.length
 ·obtain⟨i,rfl⟩: ∃ i:Nat,p=i:=⟨p.toNat,by omega⟩;have hi:i<s.a_.length:=by omega
  have fp:=f.pl _ (getElem_mem hi);rw [if_neg (by simp;omega)];simp only [Al hi,Option.bind_some,Ff fp.1,Ff fp.2.1,Ff fp.2.2];split
  ·exact⟨_,rfl,fp.2.1.sh (by decide)⟩
  split
  ·exact⟨_,rfl,fp.1.sh (by decide)⟩
  split
  ·exact⟨_,rfl,fp.2.2.sh (by decide)⟩
  grind
 ·rw [if_pos (by by_cases q:p<0<;>simp [q];omega)];grind
theorem AcC (f:Gb s) (o:Ae):T (MP s o):=by obtain⟨l,h1,h2⟩:=AhW f o.O_ o.p_;obtain⟨n,hn⟩:=zC (x:=o.Id) (f.st.sh (by decide));unfold MP;simp only [h1,hn,zB h2,Option.bind_some];exact yr ⟨_,rfl⟩ ⟨_,rfl⟩
theorem isT (o:Ae) (a b:Int):T (jD o a b):=by
 obtain⟨c,hc⟩:=AhT o.Counters;unfold jD ZE Uq;simp only [hc]
 repeat' (first | with_reducible exact Ts | refine yr ?_ ?_ | refine Tb ?_ (fun _=>?_) | refine Tg ?_)
theorem AhX {os:List Ae} (h: ∀ i:Nat, ∀ h:i+1<os.length,os[i].Id <os[i+1].Id):Asc os:=by
 have key: ∀ d i:Nat, ∀ h:i+d+1<os.length,os[i].Id <os[i+d+1].Id :=by intro d;induction d<;>grind
 refine List.pairwise_iff_getElem.2 fun i j hi hj hij=>?_;have:=key (j - i - 1) i (by omega);grind
theorem zF (f:Gb s) (adA:List AN):An (KI adA s) (Asc s.b_/\ ∀ o∈s.b_,o.Id<s.f_):=by
 unfold KI jn;by_cases hl:(2048:Int)<s.b_.length
 ·simp_all [An.no]
 rw [if_neg (by simpa using hl)];refine An.lp (K:=fun _=>OD) (P:=fun i=> ∀ h:i<s.b_.length,s.b_[i].Id <s.f_/\(0<i->s.b_[i - 1].Id <s.b_[i].Id)) s.b_.length (by omega) (fun i hi=>?_) ?_ (fun hP=>An.rt fun _=>⟨AhX fun i hi=>?_,fun o ho=>?_⟩)
 ·obtain⟨r,hr⟩:=isT s.b_[i] adA.length s.a_.length;obtain⟨q,hq⟩:=AcC f s.b_[i];have he: ∃ e,(0<i->e=s.b_[i - 1].Id)/\GF adA s (i:Int)=(if(if(if(if(!r)=true then true else decide (s.f_<=s.b_[i].Id))=true then true else decide (s.c_<=s.b_[i].adf))=true then true else if decide ((0:Int)<i)=true then decide (s.b_[i].Id <=e)else false) then some (.inr (.inr false))else if !q then some (.inr (.inr false))else some (.inl ((i:Int)+1))):=by
   unfold GF;rw [if_pos (S1 hi),Al hi];simp only [Option.bind_some,hr,hq];rw [N_ (by omega)];by_cases h0:0<i
   ·rw [Ay (by omega) (by omega),show ((i:Int) - 1)=((i - 1:Nat):Int) by omega,Al (by omega)];simp only [Uk,Option.bind_some];generalize (if(if(!r)=true then true else decide (s.f_<=s.b_[i].Id)) then true else decide (s.c_<=s.b_[i].adf))=c;simp_all
   ·obtain rfl:i=0:=by omega
    refine⟨0,fun h=>by omega,?_⟩;rw [show decide ((0:Int)<((0:Nat):Int))=false from rfl];generalize (if(if(!r)=true then true else decide (s.f_<=s.b_[0].Id)) then true else decide (s.c_<=s.b_[0].adf))=c;cases c<;>rfl
  grind
 ·unfold GF;grind
 ·grind
 ·obtain⟨i,hi,rfl⟩:=List.getElem_of_mem ho;grind
theorem Af4 (l:List BB):T (DG l []):=by
 cases l with
 | nil=>exact⟨true,by kernel_rfl⟩
 | cons a l=>exact⟨false,by unfold DG;grind⟩
theorem Af5 (l:List AF):T (EV l []):=by
 cases l with
 | nil=>exact⟨true,by kernel_rfl⟩
 | cons a l=>exact⟨false,by unfold EV;grind⟩
theorem Af6 (a b:AG) (h1:b.acg=[]) (h2:b.aai=[]) (h3:b.w_=[]):T (GG a b):=by
 have hJ:T (H9 a b):=by obtain⟨x,hx⟩:=Af4 a.aai;obtain⟨y,hy⟩:=Af5 a.w_;unfold H9;rw [h2,h3];simp only [hx,hy,Uk,Option.bind_some];grind
 cases hs:a.acg with
 | nil=>
   simp_all [GG,jn,n9,IS]
 | cons x l=>exact⟨false,by unfold GG;grind⟩
theorem aY.len {a:AG} (h:aY a):Acl a:=⟨h.s.sh (by decide),h.e.sh (by decide)⟩
theorem Pp (a:Int):Cx s a=some (decide (0<=a/\a<=Ab ((s.a_.length:Int) - 1))):=by unfold Cx;rw [inE];rfl
def Spl (s:Aa) (x:AE):Prop:=x.Kind=1-> ∃ o∈s.b_,o.Id=x.Id/\o.O_=5
theorem AhY (ho:s.b_.length<=100000) {x:AE} (h:aY x.C_):An (SU s x) (Spl s x):=by
 obtain⟨⟨o,b⟩,h1,h2⟩:=AhV ho x.Id;dsimp only at h2;unfold SU;obtain⟨y,hy⟩:=Af6 x.C_ (⟨(0:Int),(⟨(0:Int),(0:Int),(0:Int),(0:Int),(0:Int),(0:Int),(0:Int),[],(0:Int),(0:Int),(⟨(0:Int),(0:Int)⟩:As),(⟨(0:Int),(0:Int)⟩:As),(⟨(0:Int),(0:Int)⟩:As)⟩:Av),([]:List (BB)),(⟨(⟨(0:Int),(0:Int),(⟨(0:Int),(0:Int),(0:Int),(0:Int),(0:Int)⟩:A5 (Int))⟩:AS),false,false,(0:Int)⟩:CC),false,(⟨(0:Int),(0:Int),(⟨(0:Int),(0:Int),(0:Int),(0:Int),(0:Int),(0:Int),(0:Int),[],(0:Int),(0:Int),(⟨(0:Int),(0:Int)⟩:As),(⟨(0:Int),(0:Int)⟩:As),(⟨(0:Int),(0:Int)⟩:As)⟩:Av)⟩:Bz),false,([]:List (C8)),([]:List (AF)),(⟨(0:Int),(0:Int),(⟨(0:Int),(0:Int),(0:Int),(0:Int),(0:Int),(0:Int),(0:Int),[],(0:Int),(0:Int),(⟨(0:Int),(0:Int)⟩:As),(⟨(0:Int),(0:Int)⟩:As),(⟨(0:Int),(0:Int)⟩:As)⟩:Av),(0:Int),(0:Int),(0:Int),(0:Int)⟩:Bn)⟩:AG) rfl rfl rfl;simp only [inE,Pp,h1,hy,zg h.len,Uk,Option.bind_some];refine An.if An.no ?_
 split
 ·rename_i hk;by_cases hb:b=true
  ·by_cases hz:o.O_=5
   ·exact An.rt fun _ _=>⟨o,(h2 hb).1,(h2 hb).2,hz⟩
   grind [An.rt]
  grind [An.rt]
 ·rename_i hk;exact An.rt fun _ k=>absurd (by simpa using k) hk
theorem Af7 (f:Gb s) (ho:s.b_.length<=100000):An (Pn s) (∀ x∈s.Stack,Spl s x):=by
 have l1:Sh s.Stack:=f.st.sh (by decide);have l2:Sh s.o_:=f.wa.sh (by decide);have l3:Sh s.v_:=f.co.sh (by decide);unfold Sh at l1 l2 l3;have t5:T (IU s):=by
  unfold IU jn;refine(An.lp (K:=fun _=>SW) (P:=fun _=>True) (Q:=True) s.v_.length l3 (fun i hi=>?_) ?_ (fun _=>An.rt fun _=>trivial)).t
  ·have fc:=f.coi _ (getElem_mem hi);obtain⟨a,ha⟩:=AhU (l:=s.v_[i].b_) (fc.1.sh (by decide));obtain⟨w,hw, -⟩:=aU s.v_[i].aai;unfold Lq;rw [if_pos (S1 hi),Al hi];simp only [Option.bind_some,Pp,inE,ha,hw,Uk];rw [N_ (by omega)];grind
  simp_all [Lq]
 have t4:T (IV s):=by
  unfold IV jn;refine(An.lp (K:=fun _=>IU s) (P:=fun _=>True) (Q:=True) s.o_.length l2 (fun i hi=>?_) ?_ (fun _=>by obtain⟨b,hb⟩:=t5;exact⟨b,hb,fun _=>trivial⟩)).t
  ·unfold Lr;rw [if_pos (S1 hi),Al hi];simp only [Option.bind_some,Pp,zg (f.wai _ (getElem_mem hi)).len,Uk];rw [N_ (by omega)];grind
  simp_all [Lr]
 unfold Pn jn;simp only [Option.bind_some];refine An.if An.no ?_
 refine An.lp (K:=fun _=>IV s) (P:=fun i=> ∀ h:i<s.Stack.length,Spl s s.Stack[i]) s.Stack.length l1 (fun i hi=>?_) ?_ (fun hP=>?_)
 ·obtain⟨b,h1,h2⟩:=AhY ho (f.sti _ (getElem_mem hi)).1;unfold Ls jn;rw [if_pos (S1 hi),Al hi];simp only [Option.bind_some,h1];cases hb:b with
  | false=>grind
  | true=>
    rw [if_neg (by simp)];rcases zA (B:=fun v=>HF s (i:Int) v) (c:=false) (P:=fun _=>True) i (by omega) (fun k hk=>by unfold HF;rw [if_pos (by simp;omega),Al (show k<s.Stack.length by omega),Al hi];simp only [Option.bind_some];rw [N_ (by omega)];grind) (by simp_all [HF])with ⟨q, -⟩ | q
    ·grind [P5,N_]
    grind
 ·unfold Ls;grind
 ·obtain⟨b,hb⟩:=t4;refine⟨b,hb,fun _ x hx=>?_⟩;obtain⟨i,hi,rfl⟩:=List.getElem_of_mem hx;grind
theorem Af8 (f:Gb s) (adA:List AN):An (jU adA s) (2<=s.a_.length/\0<=s.k_/\s.k_<s.a_.length/\(s.b_.length<=200->Dk 1000000 s)):=by
 unfold jU jn;by_cases ho:s.b_.length<=100000
 case neg=>
  simp only [inE,Uk,Option.bind_some];rw [show decide ((2048:Int)<(s.b_.length:Int))=true by simp;omega,if_pos (ttE _)];exact An.no
 obtain⟨b1,h1,k1⟩:=zE f ho;obtain⟨b2,h2,k2⟩:=zF f adA;obtain⟨b3,h3,k3⟩:=Af7 f ho;have hx:Sh s.Extra:=f.xt.sh (by decide);unfold Sh at hx;simp only [inE,Pp,h1,Uk,Option.bind_some];by_cases q1:1<=s.f_/\s.f_<=1000000
 case neg=>rw [if_pos (by simp [q1])];exact An.no
 by_cases q2:1<=s.c_/\s.c_<=1000000
 case neg=>rw [if_pos (by simp [q1,q2])];exact An.no
 refine An.if An.no ?_
 cases hb1:b1 with
 | false=>simp_all [An.no]
 | true=>
   obtain⟨⟨m1,m2⟩,m3⟩:=k1 hb1;by_cases q3:0<=s.k_/\s.k_<=Ab ((s.a_.length:Int) - 1)
   case neg=>rw [if_pos (by simp [q3])];exact An.no
   refine An.if An.no ?_
   refine An.lp (K:=fun _=>QY adA s) (P:=fun _=>True) s.Extra.length hx (fun i hi=>?_) ?_ (fun _=>?_)
   ·unfold QZ;rw [if_pos (S1 hi),Al hi];simp only [Option.bind_some,Pp];rw [N_ (by omega)];grind
   ·unfold QZ;grind
   ·unfold QY;simp only [Pp,h2,h3,Uk,Option.bind_some];refine An.if An.no ?_
    rw [Ay (by omega) (by omega)]at q3;refine An.rt fun h=>⟨m1,q3.1,by omega,fun hol=>?_⟩;have hb2:b2=true:=by grind
    have hb3:b3=true:=by grind
    obtain⟨a1,a2⟩:=k2 hb2;exact⟨f,m2,hol,a1,a2,by omega,fun p hp=>by obtain⟨⟨c1,c2⟩,c3,c4⟩:=m3 p hp hp;exact⟨⟨c1,(by grind)⟩,⟨c3,(by grind)⟩⟩,k3 hb3⟩
end
end Go.PL
