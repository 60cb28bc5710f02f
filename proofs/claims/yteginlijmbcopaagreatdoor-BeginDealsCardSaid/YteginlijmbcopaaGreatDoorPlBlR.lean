/- Plain laws of states: a state is the same as itself, by the reference. -/
import Derived.Test.YteginlijmbcopaaGreatDoorPlBlQ
namespace Go.PL
open Go
set_option linter.all false
set_option maxRecDepth 100000
set_option maxHeartbeats 1000000
abbrev Sh {α:Type} (l:List α):Prop:=l.length<9223372036854775807
theorem E8.sh {α:Type} {b:Nat} {l:List α} (h:E8 b l) (hb:1<=b):Sh l:=by have:=h.len hb;grind
theorem P6 {α β:Type} {l:List α} {B:Int->Option (Int⊕(Unit⊕β))} (hl:Sh l) (hB: ∀ (i:Nat) (_:i<l.length),B (i:Int)=some (.inl (Ab ((i:Int)+1)))) (hE:B (l.length:Int)=some (.inr (.inl ()))):iter B FU 0=some (.inl ()):=
 Acq l.length hl (fun i hi=>by rw [hB i hi,N_ (by grind)]) hE
theorem zx {l:List BB} (hl:Sh l):DG l l=some true:=by unfold DG jn;rw [if_neg (by simp),P6 (l:=l) hl (by simp_all [Im,Al]) (by simp_all [Im])];rfl
theorem Acz {l:List BB} (hl:Sh l):IH l l=some true:=by unfold IH jn;rw [if_neg (by simp),P6 (l:=l) hl (by simp_all [Io,Al]) (by simp_all [Io])];rfl
theorem AcA {a:AF} (h:Sh a.aai):Sn a a=some true:=by simp_all [Sn,zx,gd]
theorem zy {l:List AF} (hl:Sh l) (h: ∀ a∈l,Sh a.aai):EV l l=some true:=by unfold EV jn;rw [if_neg (by simp),P6 (l:=l) hl (by simp_all [Ip,Al,AcA]) (by simp_all [Ip])];rfl
theorem zz {a:AG} (h:aY a):GG a a=some true:=by unfold GG jn;rw [if_neg (by simp),P6 (l:=a.acg) (h.s.sh (by decide)) (by simp_all [IS,Al]) (by simp_all [IS])];show H9 a a=_;unfold H9;rw [zx (h.m.sh (by decide)),zy (h.e.sh (by decide)) fun e he=>(h.em e he).sh (by decide)];simp [gd]
theorem Af0 {a:AE} (h:aY a.C_/\E8 16 a.aaF):IT a a=some true:=by unfold IT jn;rw [if_neg (by simp),P6 (l:=a.aaF) (h.2.sh (by decide)) (by simp_all [Ht,Al]) (by simp_all [Ht])];simp_all [Ng,zz,gd]
theorem Af1 {a:AA} (h:aY a.C_):Fv a a=some true:=by grind [Fv,zz,gd]
theorem Af2 {a:AY} (h:E8 8 a.b_/\E8 176 a.aai):IK a a=some true:=by unfold IK;rw [aX (h.1.sh (by decide)),Acz (h.2.sh (by decide))];simp [gd]
theorem AhS {s:Aa} (h:Gb s):Co s s=some true:=by
 have hl:Pm s s=some true:=by
  unfold Pm jn;simp only [bne_self_eq_false,Bool.false_eq_true,if_false,Option.bind_some];rw [P6 (l:=s.a_) (h.p.sh (by decide)) (fun i hi=>by unfold Lp;rw [if_pos (S1 hi),Al hi];simp only [Option.bind_some];have:=h.pl _ (List.getElem_mem hi);rw [AfS ⟨this.1.sh (by decide),this.2.1.sh (by decide),this.2.2.sh (by decide)⟩];rfl) (by simp_all [Lp])]
  show M3 s s=_;unfold M3 jn;rw [P6 (l:=s.b_) (h.o.sh (by decide)) (by simp_all [Lo,Al]) (by simp_all [Lo])];show M2 s s=_;unfold M2 jn;rw [P6 (l:=s.Stack) (h.st.sh (by decide)) (fun i hi=>by unfold Ln;rw [if_pos (S1 hi),Al hi];simp only [Option.bind_some];rw [Af0 (h.sti _ (List.getElem_mem hi))];rfl) (by simp_all [Ln])]
  show M1 s s=_;unfold M1 jn;rw [P6 (l:=s.o_) (h.wa.sh (by decide)) (fun i hi=>by unfold Lm;rw [if_pos (S1 hi),Al hi];simp only [Option.bind_some];rw [Af1 (h.wai _ (List.getElem_mem hi))];rfl) (by simp_all [Lm])]
  show M0 s s=_;unfold M0 jn;rw [P6 (l:=s.v_) (h.co.sh (by decide)) (fun i hi=>by unfold Ll;rw [if_pos (S1 hi),Al hi];simp only [Option.bind_some];rw [Af2 (h.coi _ (List.getElem_mem hi))];rfl) (by simp_all [Ll])]
  rfl
 unfold Co;rw [hl,aX (h.bf.sh (by decide)),aX (h.ex.sh (by decide)),aX (h.xt.sh (by decide))];simp [gd]
theorem zA {β:Type} {B:Int->Option (Int⊕(Unit⊕β))} {c:β} {P:Nat->Prop} (n:Nat) (hn:n<9223372036854775807) (hB: ∀ i:Nat,i<n->(B (i:Int)=some (.inl ((i:Int)+1))/\P i)\/B (i:Int)=some (.inr (.inr c))) (hE:B (n:Int)=some (.inr (.inl ()))):
 (iter B FU 0=some (.inl ())/\ ∀ i<n,P i)\/iter B FU 0=some (.inr c):=by
 have key: ∀ m:Nat,m<=n->(∀ i<m,B ((i:Nat):Int)=some (.inl ((i:Int)+1))/\P i)\/ ∃ k<m,(∀ i<k,B ((i:Nat):Int)=some (.inl ((i:Int)+1)))/\B (k:Int)=some (.inr (.inr c)):=by intro m;induction m<;>grind
 rcases key n (Nat.le_refl n)with h | ⟨k,h1,h2,h3⟩
 ·grind [Acq]
 ·exact .inr (Ch (fun i=>(i:Int)) k (by omega) h2 h3 rfl)
def An (o:Option Bool) (P:Prop):Prop:= ∃ b,o=some b/\(b=true->P)
theorem An.rt {b:Bool} {P:Prop} (h:b=true->P):An (some b) P:=⟨b,rfl,h⟩
theorem An.no {P:Prop}:An (some false) P:=⟨false,rfl,fun h=>by cases h⟩
theorem An.t {o:Option Bool} {P:Prop} (h:An o P):T o:=by obtain⟨b,h1, -⟩:=h;grind
theorem An.lp {B:Int->Option (Int⊕(Unit⊕Bool))} {K:Unit->Option Bool} {P:Nat->Prop} {Q:Prop} (n:Nat) (hn:n<9223372036854775807) (hB: ∀ i:Nat,i<n->(B (i:Int)=some (.inl ((i:Int)+1))/\P i)\/B (i:Int)=some (.inr (.inr false))) (hE:B (n:Int)=some (.inr (.inl ())))
 (hK:(∀ i<n,P i)->An (K ()) Q):An ((iter B FU 0).bind (Sum.elim (fun _=>K ()) (fun o1=>some o1))) Q:=by
 rcases zA n hn hB hE with ⟨h1,h2⟩ | h1
 all_goals grind [An.no]
theorem inE (a b d:Int):Eu a b d=some (decide (b<=a/\a<=d)):=by grind [Eu]
theorem AcB (a:A6 Int):T (Pe a):=by unfold Pe jn;refine(An.lp (K:=fun _=>R9) (P:=fun _=>True) (Q:=True) 6 (by omega) (fun i hi=>?_) (by kernel_rfl) (fun _=>An.rt fun _=>trivial)).t;unfold Sa;rw [if_pos (by simp;omega)];obtain⟨e,he⟩: ∃ e,idx a.l (i:Int)=some e:=⟨_,Al (l:=a.l) (show i<6 from hi)⟩;grind [Uk,N_]
theorem AhT (a:A3 Int):T (jg a):=by unfold jg jn;refine(An.lp (K:=fun _=>fH) (P:=fun _=>True) (Q:=True) 3 (by omega) (fun i hi=>?_) (by kernel_rfl) (fun _=>An.rt fun _=>trivial)).t;unfold fI;rw [if_pos (by simp;omega)];obtain⟨e,he⟩: ∃ e,idx a.l (i:Int)=some e:=⟨_,Al (l:=a.l) (show i<3 from hi)⟩;grind [Uk,N_]
theorem AhU {l:List Int} (hl:Sh l):T (ZF l):=by
 have hw:W (ZF l) (fun _=>True):=by
  unfold ZF jn;refine W.it (fun v:Int=>1<=v/\v<=9223372036854775806) (fun v=>((l.length:Int) - v).toNat) (by omega) (by grind) (fun v hv=>?_);unfold fJ;refine W.if (fun hi=>?_) (fun _=>W.ex ⟨_,rfl,trivial⟩)
  simp only [decide_eq_true_eq]at hi;unfold Sh at hl;rw [Ay (x:=v - 1) (by omega) (by omega),Ay (x:=v+1) (by omega) (by omega)];refine W.bd (W.idx (by omega)) (fun a _=>W.bd (W.idx (by omega)) (fun b _=>W.if (fun _=>W.ex ⟨_,rfl,trivial⟩) (fun _=>W.nx (by omega) (by omega))))
 exact⟨_,hw.choose_spec.1⟩
theorem zB {l:List Int} {x:Int} (hl:Sh l):LX l x=some ((l.count x:Nat):Int):=by
 have hit:iter (fun(v:Int×Int)=>Gu l x v.1 v.2) FU ((0:Int),(0:Int))=some ((l.count x:Nat):Int):=by
  refine Ch (fun i=>((((l.take i).count x:Nat):Int),(i:Int))) l.length hl (fun i hi=>?_) ?_ (by simp)
  ·have hc:(l.take i).count x<=i:=(by grind [List.count_le_length]);unfold Sh at hl;show Gu l x _ (i:Int)=_;unfold Gu jn;rw [if_pos (S1 hi),Al hi];simp only [Option.bind_some];rw [List.take_succ_eq_append_getElem hi,List.count_append,List.count_singleton];by_cases e:l[i]=x
   ·rw [if_pos (by simp [e]),if_pos (by simp [e])];grind [K1,Ay]
   ·rw [if_neg (by simp [e]),if_neg (by simp [e])];grind [K1,Ay]
  simp_all [Gu]
 unfold LX jn;rw [hit];rfl
theorem zC {s:Aa} {x:Int} (hl:Sh s.Stack):T (JU s x):=by
 have hw:W (JU s x) (fun _=>True):=by
  unfold JU jn;refine W.it (fun v:Int×Int=>0<=v.2/\v.2<=s.Stack.length) (fun v=>((s.Stack.length:Int) - v.2).toNat) (by simp) (by grind) (fun v hv=>?_);obtain⟨n,i⟩:=v;dsimp only at hv ⊢;unfold Sh at hl;have hJ: ∀ n,i<s.Stack.length->W (JT i n) (LQ (fun v:Int×Int=>0<=v.2/\v.2<=s.Stack.length) (fun v=>((s.Stack.length:Int) - v.2).toNat) (n,i) (fun r=>W (PR r) (fun _=>True))):=(by grind [JT,Ay,W.nx]);unfold PS jn;refine W.if (fun hi=>?_) (fun _=>W.ex ⟨_,rfl,trivial⟩)
  simp only [decide_eq_true_eq]at hi;refine W.bd (W.idx (by omega)) (fun a _=>W.gb (fun _=>W.idx (by omega)) (fun b _=>W.lt fun c _=>W.if (fun _=>?_) (fun _=>?_)))
  ·exact hJ _ hi
  grind
 exact⟨_,hw.choose_spec.1⟩
theorem zD {α:Type} (p:α->Bool): ∀ l:List α,(∀ a∈l,p a=false)\/ ∃ A o C,l=A++o::C/\p o=true/\ ∀ a∈A,p a=false
 | []=>(by grind)
 | a::l=>by
   cases h:p a with
   | true=>exact .inr ⟨[],a,l,rfl,h,fun a h=>by cases h⟩
   | false=>
     rcases zD p l with q | ⟨A,o,C,q1,q2,q3⟩
     all_goals grind
section
variable {s:Aa}
theorem AhV (hl:s.b_.length<=100000) (id:Int): ∃ r,J0 s id=some r/\(r.2=true->r.1∈s.b_/\r.1.Id=id):=by
 unfold J0;rcases zD (fun x:Ae=>x.Id==id) s.b_ with h | ⟨A,o,C,h1,h2,h3⟩
 ·simp_all [L5,tG]
 ·refine⟨(o,true),?_,(by grind)⟩;grind [aZ]
def Lk (os:List Ae) (z p:Int) (l:List Int):Prop:=l.Nodup/\ ∀ id∈l, ∃ o∈os,o.Id=id/\o.O_=z/\(0<=p->o.p_=p)
theorem oa (ho:s.b_.length<=100000) {l:List Int} (hl:Sh l) (z p:Int):An (H8 s l z p) (Lk s.b_ z p l):=by
 have hB: ∀ i:Nat,i<l.length->(H7 s l z p (i:Int)=some (.inl ((i:Int)+1))/\ ∀ h:i<l.length,l.count l[i]=1/\ ∃ o∈s.b_,o.Id=l[i]/\o.O_=z/\(0<=p->o.p_=p))\/H7 s l z p (i:Int)=some (.inr (.inr false)):=fun i hi=>by obtain⟨⟨o,b⟩,h1,h2⟩:=AhV ho l[i];dsimp only at h2;unfold H7;rw [if_pos (S1 hi),Al hi];simp only [Option.bind_some,h1,zB hl,Uk];rw [N_ (by grind)];grind
 unfold H8 jn;rcases zA l.length hl hB (by simp_all [H7])with ⟨h1,h2⟩ | h1
 ·rw [h1];refine⟨true,rfl,fun _=>⟨List.nodup_iff_count.2 fun a=>?_,fun id hid=>?_⟩⟩
  ·by_cases ha:a∈l
   ·obtain⟨i,hi,rfl⟩:=List.getElem_of_mem ha;grind
   grind
  ·obtain⟨i,hi,rfl⟩:=List.getElem_of_mem hid;grind
 ·rw [h1];exact An.no
end
end Go.PL
