/- Plain laws of games dealt in any state: the decisions about first hands, by program and reference alike. -/
import Derived.Test.YteginlijmbcopaaGreatDoorPlBlP
namespace Go.PL
open Go
set_option linter.all false
set_option maxRecDepth 100000
set_option maxHeartbeats 1000000
def zt:List Ak:=[⟨10,0,0⟩,⟨9,0,0⟩]
def S2 (p:Int):Ac:=⟨11,p,0,0,0,0,zt⟩
theorem Acw (p:Int):JV (S2 p)=some false:=by kernel_rfl
theorem AhL (p:Int):B2 (S2 p)=some [0]:=by kernel_rfl
theorem zu (p:Int):JZ (S2 p)=some false:=by kernel_rfl
theorem AhM (p:Int):Cn (S2 p)=some [0]:=by kernel_rfl
theorem AfY (p:Int):GA (S2 p)=some (S2 p):=by kernel_rfl
theorem Aji:AX zt=some zt:=by kernel_rfl
def cZ (a:List Int):Bool:=a==[0]||a==[1]
theorem Ajj {x:Int} (h:x ≠ 0) (h':x ≠ 1):(if decide (x<0) then true else decide ((2:Int)<=x))=true:=by grind
theorem Ajk {p x:Int} (h:x ≠ 0) (h':x ≠ 1):ED (S2 p) [x]=some false:=by
 unfold ED jn;rw [n9 (s:=(0:Int)) (r:= .inr false) (by
  unfold OB;rw [if_pos (by simp),show idx [x] 0=some x from Al (k:=0) (by simp)];simp only [Option.bind_some];rw [show (if decide (x<0) then true else decide (((S2 p).Options.length :Int)<=x))=true from Ajj h h'];rfl)]
 rfl
theorem AhN {x:Int} (h:x ≠ 0) (h':x ≠ 1):DD [x] 2=some false:=by
 unfold DD jn;rw [n9 (s:=(0:Int)) (r:= .inr false) (by
  unfold Oq jn;rw [if_pos (by simp),show idx [x] 0=some x from Al (k:=0) (by simp)];grind [Uk])]
 rfl
theorem AfZ (p:Int) (a:List Int):Ga (S2 p) a=some (cZ a)/\F7 (S2 p) a=some (cZ a):=by
 by_cases hl:256<(a.length:Int)
 ·have hv:cZ a=false:=by grind [cZ]
  simp_all [Ga,F7]
 ·have e1:Ga (S2 p) a=MY (S2 p) a true:=by unfold Ga jn;rw [if_neg (by simpa using hl)];rfl
  have e2:F7 (S2 p) a=(gd ((a.length:Int)==1) (DD a 2)).bind fun r=>some (if((a.length:Int)==1) then r else false):=by unfold F7;rw [if_neg (by simpa using hl)];show (some true).bind _=_;simp only [Option.bind_some,if_true];rw [show ((S2 p).Options.length :Int)=2 from rfl,show (((a.length:Int)==1)==true)=((a.length:Int)==1) by simp]
  rw [e1,e2];unfold MY;rw [if_pos rfl];by_cases h1:(a.length:Int)=1
  ·obtain⟨x,rfl⟩: ∃ x,a=[x]:=List.length_eq_one_iff.1 (by omega);by_cases h0:x=0
   ·subst h0;exact⟨by kernel_rfl,by kernel_rfl⟩
   by_cases h2:x=1
   ·subst h2;exact⟨by kernel_rfl,by kernel_rfl⟩
   ·have hv:cZ [x]=false:=by simp [cZ,h0,h2]
    rw [Ajk h0 h2,AhN h0 h2,hv];exact⟨rfl,rfl⟩
  ·have hb:((a.length:Int)==1)=false:=by grind
   have hv:cZ a=false:=by grind [cZ]
   rw [hb,hv];exact⟨rfl,rfl⟩
def pkP {β:Type} (an:List (List Int)) (p u:Int) (pd:Ac) (w b:Bool) (j:List Int×Int×Ac×Bool×Bool->Option β):Option β:=
 (some (if false then true else w)).bind fun aww=>
 (some (if aww then true else b)).bind fun ar8=>
 (gd (ar8==false) (JV (S2 p))).bind fun au9=>
 (some (if ar8 then true else au9)).bind fun awv=>
 (if awv then(B2 (S2 p)).bind fun au8=>j (au8,u,pd,w,b)
 else
  (if(u==(an.length:Int)) then
   (AX zt).bind fun aq4=>
   (B2 (⟨(11:Int),p,(0:Int),(0:Int),(0:Int),(0:Int),aq4⟩:Ac)).bind fun aq3=>
   j (aq3,u,(⟨(11:Int),p,(0:Int),(0:Int),(0:Int),(0:Int),aq4⟩:Ac),true,b)
  else
   (idx an u).bind fun aEl=>
   (idx an u).bind fun arX=>
   (Ga (S2 p) arX).bind fun au7=>
   (if !au7 then(B2 (S2 p)).bind fun au6=>j (au6,(Ab (u+(1:Int))),pd,w,true)
   else(BQ arX).bind fun au5=>j (au5,(Ab (u+(1:Int))),pd,w,b))))
def pkR {β:Type} (an:List (List Int)) (p u:Int) (pd:Ac) (w b:Bool) (j:List Int×Ac×Bool×Bool×Int->Option β):Option β:=
 (gd (false==false) (JZ (S2 p))).bind fun avf=>
 (some (if false then true else avf)).bind fun awC=>
 (some (if awC then true else w)).bind fun awB=>
 (some (if awB then true else b)).bind fun awA=>
 (if awA then(Cn (S2 p)).bind fun ave=>j (ave,pd,w,b,u)
 else
  (if(decide ((an.length:Int)<=u)) then
   (GA (S2 p)).bind fun avd=>
   (Cn (S2 p)).bind fun avc=>j (avc,avd,true,b,u)
  else
   (idx an u).bind fun aEr=>
   (idx an u).bind fun arZ=>
   (F7 (S2 p) arZ).bind fun avb=>
   (if !avb then(Cn (S2 p)).bind fun ava=>j (ava,pd,w,true,(Ab (u+(1:Int))))
   else(DH arZ).bind fun au_=>j (au_,pd,w,b,(Ab (u+(1:Int)))))))
section
variable {an:List (List Int)}
theorem AhO (hal:an.length<9223372036854775807) (haL: ∀ a∈an,a.length*8<=140737488355328) {p u:Int} {pd:Ac} {w b:Bool} (hu:0<=u/\u<=an.length) (ho:pd.Options.length<=2): ∃ a' u' pd' w' b',(a'=[0]\/a'=[1])/\(0<=u'/\u'<=(an.length:Int))/\Ac.Options pd'∈[pd.Options,zt]/\
 (∀ (β:Type) (j:List Int×Int×Ac×Bool×Bool->Option β),pkP an p u pd w b j=j (a',u',pd',w',b'))/\ ∀ (β:Type) (j:List Int×Ac×Bool×Bool×Int->Option β),pkR an p u pd w b j=j (a',pd',w',b',u'):=by
 unfold pkP pkR;rw [Acw,AhL,zu,AhM];cases hwb:(w||b)with
 | true=>
   refine⟨[0],u,pd,w,b, .inl rfl,hu,by simp,fun β j=>?_,fun β j=>?_⟩
   ·cases w<;>cases b<;>first | (simp at hwb;done) | rfl
   ·cases w<;>cases b<;>first | (simp at hwb;done) | rfl
 | false=>
   have e1:w=false:=by grind
   have e2:b=false:=by grind
   subst e1 e2;by_cases hul:u=(an.length:Int)
   ·have k1:(u==(an.length:Int))=true:=by grind
    have k2:decide ((an.length:Int)<=u)=true:=by simp [hul]
    refine⟨[0],u,S2 p,true,false, .inl rfl,hu,by simp [S2],fun β j=>?_,fun β j=>?_⟩
    ·rw [k1,Aji];refine(show _=(B2 (S2 p)).bind fun aq3=>j (aq3,u,S2 p,true,false)from rfl).trans ?_;rw [AhL];rfl
    ·rw [k2,AfY];rfl
   ·obtain⟨i,rfl⟩: ∃ i:Nat,u=i:=⟨u.toNat,by omega⟩;have hj:i<an.length:=by omega
    have k1:((i:Int)==(an.length:Int))=false:=by grind
    have k2:decide ((an.length:Int)<=(i:Int))=false:=by simp;omega
    have hv:=AfZ p an[i];have hw:Ab ((i:Int)+1)=(i:Int)+1:=Ay (by omega) (by omega);have hL:=haL _ (List.getElem_mem hj);have c1:BQ an[i]=some an[i]:=if_pos ⟨hL,by unfold maxLen;omega⟩;have c2:DH an[i]=some an[i]:=by grind [DH,Ds,maxLen]
    cases hb:cZ an[i]with
    | false=>
      rw [hb]at hv;refine⟨[0],(i:Int)+1,pd,false,true, .inl rfl,by omega,by simp,fun β j=>?_,fun β j=>?_⟩
      ·simp only [k1,Al hj,hv.1,hw,Option.bind_some];rfl
      ·simp only [k2,Al hj,hv.2,hw,Option.bind_some];rfl
    | true=>
      rw [hb]at hv;refine⟨an[i],(i:Int)+1,pd,false,false,?_,by omega,by simp,fun β j=>?_,fun β j=>?_⟩
      ·grind [cZ]
      ·simp only [k1,Al hj,hv.1,hw,c1,Option.bind_some];rfl
      ·simp only [k2,Al hj,hv.2,hw,c2,Option.bind_some];rfl
abbrev KT:=Aa×Int×Ac×Bool×Bool
abbrev RK:=Aa×Ac×Bool×Bool×Int
def rt (t:KT):RK:=(t.1,t.2.2.1,t.2.2.2.1,t.2.2.2.2,t.2.1)
def rl (t:KT):Ac×Bool×Bool×Int×Aa:=(t.2.2.1,t.2.2.2.1,t.2.2.2.2,t.2.1,t.1)
structure Kok (an:List (List Int)) (n:Nat) (N:Int) (t:KT):Prop where
 d:Dk N t.1
 u:0<=t.2.1/\t.2.1<=an.length
 o:t.2.2.1.Options.length<=2
 c:t.1.a_.length=n
theorem Kok.mono {n:Nat} {N M:Int} {t:KT} (k:Kok an n N t) (h:N<=M):Kok an n M t:={k with d:=k.d.mono h}
def we (an:List (List Int)) (p:Int) (v:Int×KT):=By an zt p v.1 v.2.1 v.2.2.1 v.2.2.2.1 v.2.2.2.2.1 v.2.2.2.2.2
def wg (an:List (List Int)) (p:Int) (v:Int×RK):=Bw an p v.1 v.2.1 v.2.2.1 v.2.2.2.1 v.2.2.2.2.1 v.2.2.2.2.2
def rH (an:List (List Int)) (s:Aa) (v:Int×Aa×RK):=Bx s an v.1 v.2.1 v.2.2.1 v.2.2.2.1 v.2.2.2.2.1 v.2.2.2.2.2.1 v.2.2.2.2.2.2
theorem AhP (hal:an.length<9223372036854775807) (haL: ∀ a∈an,a.length*8<=140737488355328) {n p:Nat} (hp:p<n) {k:Nat} {N:Int} {t:KT} (hk:k<=7) (h1:1<=k) (ok:Kok an n N t) (hN:N<=7000000):
 ∃ (t':KT) (e:Bool),Kok an n (N+2000) t'/\we an (p:Int) ((k:Int),t)=some (if e then .inr (.inr t')else .inl (((k - 1:Nat):Int),t'))/\wg an (p:Int) ((k:Int),rt t)=some (if e then .inr (.inr (rl t'))else .inl (((k - 1:Nat):Int),rt t'))/\
   ∀ s0 x:Aa,s0.k_=(p:Int)->rH an s0 ((k:Int),t.1,x,(rt t).2)=some (if e then .inr (.inr (x,rl t'))else .inl (((k - 1:Nat):Int),t'.1,x,(rt t').2)):=by
 obtain⟨s,u,pd,w,b⟩:=t;have hc:=ok.c;dsimp only at hc;obtain⟨s1,e1,e2,d1,c1⟩:=drawn (s:=s) (p:=p) (k:=k) ok.d (by grind) hk (by omega);have hp1:p<s1.a_.length:=by omega
 have hu:=ok.u;have ho:=ok.o;dsimp only at hu ho;have hkk:decide ((0:Int)<(k:Int))=true:=by simp;omega
 have hwk:Ab ((k:Int) - 1)=((k - 1:Nat):Int):=by grind [Ay]
 have ex: ∀ p':Int,p'=(p:Int)->L7 s p' (k:Int)=some s1:=fun p' h=>h▸e2;by_cases hh:s1.a_[p].Hand.length =0
 ·have hz:((s1.a_[p].Hand.length :Int)==0)=true:=by simp [hh]
  refine⟨(s1,u,pd,w,b),true,⟨d1.mono (by omega),hu,ho,by grind⟩,?_,?_,fun s0 x hs=>?_⟩
  ·show By an zt p k s u pd w b=_;unfold By jn;rw [if_pos hkk,e1];simp only [Option.bind_some];rw [d1.aq9 hp1];grind
  ·show Bw an p k s pd w b u=_;unfold Bw jn;rw [if_pos hkk,e2];simp only [Option.bind_some,Al hp1];rw [if_pos hz];rfl
  ·show Bx s0 an k s x pd w b u=_;unfold Bx jn;rw [if_pos hkk,hs,e2];simp only [Option.bind_some,Al hp1];rw [if_pos hz];rfl
 ·have hz:((s1.a_[p].Hand.length :Int)==0)=false:=by grind
  obtain⟨a',u',pd',w',b',ha,hu',hpd,q1,q2⟩:=AhO hal haL (p:=(p:Int)) (w:=w) (b:=b) hu ho;have ho':pd'.Options.length<=2:=by
   simp only [List.mem_cons,List.not_mem_nil,or_false]at hpd;rcases hpd with h | h<;>rw [h]
   ·exact ho
   ·decide
  have E1:we an (p:Int) ((k:Int),s,u,pd,w,b)=CX (p:Int) (k:Int) s1 a' u' pd' w' b':=by show By an zt p k s u pd w b=_;unfold By jn;rw [if_pos hkk,e1];simp only [Option.bind_some];rw [d1.aq9 hp1];simp only [Option.bind_some];rw [if_neg (by simp [hz])];exact q1 _ fun v=>CX (p:Int) (k:Int) s1 v.1 v.2.1 v.2.2.1 v.2.2.2.1 v.2.2.2.2
  have E2:wg an (p:Int) ((k:Int),rt (s,u,pd,w,b))=CU (p:Int) (k:Int) s1 a' pd' w' b' u':=by show Bw an p k s pd w b u=_;unfold Bw jn;rw [if_pos hkk,e2];simp only [Option.bind_some,Al hp1];rw [if_neg (by simp [hz])];exact q2 _ fun v=>CU (p:Int) (k:Int) s1 v.1 v.2.1 v.2.2.1 v.2.2.2.1 v.2.2.2.2
  have E3: ∀ s0 x:Aa,s0.k_=(p:Int)->rH an s0 ((k:Int),s,x,pd,w,b,u)=CW s0 (k:Int) x s1 a' pd' w' b' u':=fun s0 x hs=>by show Bx s0 an k s x pd w b u=_;unfold Bx jn;rw [if_pos hkk,hs,e2];simp only [Option.bind_some,Al hp1];rw [if_neg (by simp [hz])];exact q2 _ fun v=>CW s0 (k:Int) x s1 v.1 v.2.1 v.2.2.1 v.2.2.2.1 v.2.2.2.2
  rcases ha with rfl | rfl
  ·refine⟨(s1,u',pd',w',b'),true,⟨d1.mono (by omega),hu',ho',by grind⟩,?_,?_,fun s0 x hs=>?_⟩
   ·rw [E1];rfl
   ·rw [E2];rfl
   ·refine(E3 s0 x hs).trans ?_;rfl
  ·obtain⟨s2,f1,f2,d2,c2⟩:=returned d1 hp1 (by omega);refine⟨(s2,u',pd',w',b'),false,⟨d2.mono (by omega),hu',ho',by grind⟩,?_,?_,fun s0 x hs=>?_⟩
   ·rw [E1];unfold CX;rw [show idx [(1:Int)] 0=some 1 from rfl];grind
   ·rw [E2];unfold CU;rw [show idx [(1:Int)] 0=some 1 from rfl];show ((J4 s1 (p:Int)).bind _)=_;rw [f2,hwk];rfl
   ·refine(E3 s0 x hs).trans ?_;unfold CW;rw [show idx [(1:Int)] 0=some 1 from rfl];show ((J4 s1 s0.k_).bind _)=_;rw [hs,f2,hwk];rfl
def HR (an:List (List Int)) (p:Nat) (t t':KT):Prop:= ∃ e:Bool,iter (we an (p:Int)) FU ((7:Int),t)=some (if e then .inr t' else .inl t')/\iter (wg an (p:Int)) FU ((7:Int),rt t)=some (if e then .inr (rl t')else .inl (rt t'))/\
 ∀ s0 x:Aa,s0.k_=(p:Int)->iter (rH an s0) FU ((7:Int),t.1,x,(rt t).2)=some (if e then .inr (x,rl t')else .inl (t'.1,x,(rt t').2))
theorem Acx (hal:an.length<9223372036854775807) (haL: ∀ a∈an,a.length*8<=140737488355328) {n p:Nat} (hp:p<n): ∀ (k M:Nat) (N:Int) (t:KT),k<=7->k<M->Kok an n N t->N+2000*k<=7000000->
 ∃ (t':KT) (e:Bool),Kok an n (N+2000*k) t'/\iter (we an (p:Int)) M ((k:Int),t)=some (if e then .inr t' else .inl t')/\iter (wg an (p:Int)) M ((k:Int),rt t)=some (if e then .inr (rl t')else .inl (rt t'))/\
   ∀ s0 x:Aa,s0.k_=(p:Int)->iter (rH an s0) M ((k:Int),t.1,x,(rt t).2)=some (if e then .inr (x,rl t')else .inl (t'.1,x,(rt t').2)):=by
 intro k;induction k with
 | zero=>
   intro M N t hk hM ok hN;obtain⟨M,rfl⟩: ∃ m,M=m+1:=⟨M - 1,by omega⟩;refine⟨t,false,ok.mono (by omega),A8 ?_,A8 ?_,fun s0 x hs=>A8 ?_⟩
   all_goals simp_all [we,By,wg,Bw,rH,Bx]
 | succ k ih=>
   intro M N t hk hM ok hN;obtain⟨M,rfl⟩: ∃ m,M=m+1:=⟨M - 1,by omega⟩;obtain⟨t',e,ok1,f1,f2,f3⟩:=AhP hal haL hp hk (by omega) ok (by omega);cases e with
   | false=>
     obtain⟨t2,e2,ok2,g1,g2,g3⟩:=ih M (N+2000) t' (by omega) (by omega) ok1 (by omega);refine⟨t2,e2,(by grind),?_,?_,fun s0 x hs=>?_⟩
     ·rw [BZ f1];exact g1
     ·rw [BZ f2];exact g2
     grind [BZ]
   | true=>exact⟨t',true,ok1.mono (by push_cast;omega),A8 f1,A8 f2,fun s0 x hs=>A8 (f3 s0 x hs)⟩
def Hs (an:List (List Int)):List Int->KT->KT->Prop
 | [],t,t'=>t'=t
 | x::xs,t,t'=> ∃ p t1,x=((p:Nat):Int)/\HR an p t t1/\Hs an xs t1 t'
def AhQ (an:List (List Int)) (l:List Int) (v:List Ak×Int×KT):=B5 an l v.1 v.2.1 v.2.2.1 v.2.2.2.1 v.2.2.2.2.1 v.2.2.2.2.2.1 v.2.2.2.2.2.2
def AhR (an:List (List Int)) (l:List Int) (v:Int×RK):=B4 an l v.1 v.2.1 v.2.2.1 v.2.2.2.1 v.2.2.2.2.1 v.2.2.2.2.2
theorem Acy (hal:an.length<9223372036854775807) (haL: ∀ a∈an,a.length*8<=140737488355328) {n:Nat} {l:List Int} (hl:l.length<=4) (hlp: ∀ x∈l, ∃ p:Nat,x=(p:Int)/\p<n): ∀ (r i M:Nat) (N:Int) (t:KT),i+r=l.length->r<M->Kok an n N t->N+14000*r<=7000000->
 ∃ t':KT,iter (AhQ an l) M (zt,(i:Int),t)=some t'/\Kok an n (N+14000*r) t'/\Hs an (l.drop i) t t':=by
 intro r;induction r with
 | zero=>
   intro i M N t hi hM ok hN;obtain⟨M,rfl⟩: ∃ m,M=m+1:=⟨M - 1,by omega⟩;refine⟨t,A8 ?_,ok.mono (by omega),?_⟩
   ·simp_all [AhQ,B5]
   ·rw [List.drop_eq_nil_of_le (by omega)];rfl
 | succ r ih=>
   intro i M N t hi hM ok hN;obtain⟨M,rfl⟩: ∃ m,M=m+1:=⟨M - 1,by omega⟩;have hil:i<l.length:=by omega
   obtain⟨p,hx,hp⟩:=hlp l[i] (List.getElem_mem hil);obtain⟨t1,e,ok1,f1,f2,f3⟩:=Acx hal haL hp 7 FU N t (by omega) (by unfold FU;omega) ok (by omega);obtain⟨t',g1,ok2,g2⟩:=ih (i+1) M (N+14000) t1 (by omega) (by omega) (ok1.mono (by omega)) (by omega);refine⟨t',?_,(by grind),?_⟩
   ·rw [BZ (s':=(zt,((i+1:Nat):Int),t1))]
    ·exact g1
    ·show B5 an l zt (i:Int) t.1 t.2.1 t.2.2.1 t.2.2.2.1 t.2.2.2.2=_;unfold B5 jn;rw [if_pos (by simp;omega),Al hil,hx];simp only [Option.bind_some];show (iter (we an (p:Int)) FU ((7:Int),t)).bind _=_;rw [show ((7:Nat):Int)=7 from rfl]at f1;rw [f1];have hw:Ab ((i:Int)+1)=((i+1:Nat):Int):=by grind [Ay]
     cases e<;>simp only [Option.bind_some,Bool.false_eq_true,if_false,if_true,Sum.elim_inl,Sum.elim_inr,GX,hw]
   ·rw [List.drop_eq_getElem_cons hil];exact⟨p,t1,hx,⟨e,f1,f2,f3⟩,g2⟩
theorem zw {l:List Int} (hl:l.length<=4): ∀ (r i M:Nat) (t t':KT),i+r=l.length->r<M->Hs an (l.drop i) t t'->iter (AhR an l) M ((i:Int),rt t)=some (rt t'):=by
 intro r;induction r with
 | zero=>
   intro i M t t' hi hM h;obtain⟨M,rfl⟩: ∃ m,M=m+1:=⟨M - 1,by omega⟩;rw [List.drop_eq_nil_of_le (by omega)]at h;have h:t'=t:=h;simp_all [A8,AhR,B4]
 | succ r ih=>
   intro i M t t' hi hM h;obtain⟨M,rfl⟩: ∃ m,M=m+1:=⟨M - 1,by omega⟩;have hil:i<l.length:=by omega
   rw [List.drop_eq_getElem_cons hil]at h;obtain⟨p,t1,hx,⟨e,f1,f2,f3⟩,g⟩:=h;rw [BZ (s':=(((i+1:Nat):Int),rt t1))]
   ·grind
   ·show B4 an l (i:Int) (rt t).1 (rt t).2.1 (rt t).2.2.1 (rt t).2.2.2.1 (rt t).2.2.2.2=_;unfold B4 jn;rw [if_pos (by simp;omega),Al hil,hx];simp only [Option.bind_some];show (iter (wg an (p:Int)) FU ((7:Int),rt t)).bind _=_;rw [f2];have hw:Ab ((i:Int)+1)=((i+1:Nat):Int):=by grind [Ay]
    cases e
    ·simp_all [GW,D4]
    ·simp only [Option.bind_some,if_true,Sum.elim_inr,D4,hw];rfl
end
end Go.PL
