/- Plain laws of games that begin: first hands dealt. -/
import Derived.Test.YteginlijmbcopaaGreatDoorPlBkN
import Derived.Test.YteginlijmbcopaaGreatDoorPlBkX
namespace Go.PL
open Go
set_option linter.all false
set_option maxRecDepth 100000
set_option maxHeartbeats 1000000
def opB:List Bl:=[⟨10,0,0⟩,⟨9,0,0⟩]
def chB (p:Int):Aw:=⟨11,p,0,0,0,0,opB⟩
theorem Aas (p:Int):Nd (chB p)=some false:=by kernel_rfl
theorem AfA (p:Int):DP (chB p)=some [0]:=by kernel_rfl
theorem Ahm {p x:Int} (h:x ≠ 0) (h':x ≠ 1):EV (chB p) [x]=some false:=by
 unfold EV jn;rw [ZA (s:=(0:Int)) (r:= .inr false) (by
  unfold OP;rw [if_pos (by simp),show idx [x] 0=some x from AD (k:=0) (by simp)];simp only [Option.bind_some];have h0:(if decide (x<0) then true else decide (((chB p).Options.length :Int)<=x))=true:=by
   show (if decide (x<0) then true else decide ((2:Int)<=x))=true;by_cases hx:x<0
   ·simp [hx]
   ·simp [hx];omega
  rw [h0];rfl)]
 rfl
theorem AdW (p:Int) (a:List Int): ∃ b,MA (chB p) a=some b/\(b=true->a=[0]\/a=[1]):=by
 unfold MA jn;by_cases hl:256<(a.length:Int)
 ·rw [if_pos (by simpa using hl)];exact⟨false,rfl,fun q=>by cases q⟩
 ·rw [if_neg (by simpa using hl)];show ∃ b,Nr (chB p) a true=some b/\_;unfold Nr;rw [if_pos rfl];by_cases h1:(a.length:Int)=1
  ·obtain⟨x,rfl⟩: ∃ x,a=[x]:=List.length_eq_one_iff.1 (by omega);by_cases h0:x=0
   ·subst h0;exact⟨true,by kernel_rfl,fun _=> .inl rfl⟩
   by_cases h2:x=1
   ·subst h2;exact⟨true,by kernel_rfl,fun _=> .inr rfl⟩
   ·refine⟨false,?_,fun q=>by cases q⟩;rw [Ahm h0 h2];rfl
  ·have hb:((a.length:Int)==1)=false:=by simpa using h1
   rw [hb];exact⟨false,rfl,fun q=>by cases q⟩
abbrev KT:=Aa×Int×Aw×Bool×Bool
structure ij (c:Az) (an:List (List Int)) (N:Int) (t:KT):Prop where
 g:Gk c t.1
 u:0<=t.2.1/\t.2.1<=an.length
 o:t.2.2.1.Options.length<=2
 n:t.1.g_<=N
section
variable {c:Az} {an:List (List Int)} {p:Nat}
def xd (an:List (List Int)) (p:Int) (v:Int×KT):=C4 an opB p v.1 v.2.1 v.2.2.1 v.2.2.2.1 v.2.2.2.2.1 v.2.2.2.2.2
theorem Aat (hp:p<c.h_.length) {k:Nat} {N:Int} {t:KT} {a:List Int} (ha:a=[0]\/a=[1]) (hk:k<=7) (h1:1<=k) (ok:ij c an N t) (hN:N<=900000):
 ∃ x,C3 (p:Int) (k:Int) t.1 a t.2.1 t.2.2.1 t.2.2.2.1 t.2.2.2.2=some x/\((∃ t',x= .inl (((k - 1:Nat):Int),t')/\ij c an (N+1000) t')\/ ∃ t',x= .inr (.inr t')/\ij c an (N+1000) t'):=by
 unfold C3;rcases ha with rfl | rfl
 ·refine⟨_,rfl, .inr ⟨_,rfl,ok.g,ok.u,ok.o,?_⟩⟩;have:=ok.n;show t.1.g_<=_;omega
 ·obtain⟨s',e1,g1,n1⟩:=returned hp ok.g (by have:=ok.n;omega);rw [show idx [(1:Int)] 0=some 1 from rfl];simp only [Option.bind_some];rw [if_neg (by decide),e1];simp only [Option.bind_some];refine⟨_,rfl, .inl ⟨(s',t.2),?_,g1,ok.u,ok.o,?_⟩⟩
  ·rw [Ao (by omega) (by omega)];congr 2;omega
  ·have:=ok.n;show s'.g_<=_;omega
theorem AfB (hp:p<c.h_.length) {k:Nat} {N:Int} {t:KT} (hk:k<=7) (h1:1<=k) (ok:ij c an N t) (hN:N<=800000) (hal:an.length<9223372036854775807) (haL: ∀ a∈an,a.length*8<=140737488355328):
 ∃ x,xd an (p:Int) ((k:Int),t)=some x/\((∃ t',x= .inl (((k - 1:Nat):Int),t')/\ij c an (N+2000) t')\/ ∃ t',x= .inr (.inr t')/\ij c an (N+2000) t'):=by
 obtain⟨s,used,aok,waits,MH⟩:=t;unfold xd C4 jn;dsimp only;rw [if_pos (by simp;omega)];obtain⟨s1,e1,g1,n1⟩:=drawn (s:=s) hp (k:=k) hk ok.g (by have:=ok.n;dsimp only at this;omega);have hp1:p<s1.bk.length:=by rw [g1.len];exact hp
 have hn:=ok.n;have hu:=ok.u;dsimp only at hn hu;rw [e1];simp only [Option.bind_some];rw [g1.apf hp1];simp only [Option.bind_some];have fin: ∀ {N':Int} {x:(Int×KT)⊕(KT⊕KT)},N'<=N+2000->((∃ t',x= .inl (((k - 1:Nat):Int),t')/\ij c an N' t')\/ ∃ t',x= .inr (.inr t')/\ij c an N' t')->((∃ t',x= .inl (((k - 1:Nat):Int),t')/\ij c an (N+2000) t')\/ ∃ t',x= .inr (.inr t')/\ij c an (N+2000) t'):=fun hN' h=>by
  rcases h with ⟨t',e,q⟩ | ⟨t',e,q⟩
  ·exact .inl ⟨t',e,q.g,q.u,q.o,by have:=q.n;omega⟩
  ·exact .inr ⟨t',e,q.g,q.u,q.o,by have:=q.n;omega⟩
 by_cases hh:s1.bk[p].Hand.length =0
 ·rw [if_pos (by simp [hh])];exact⟨_,rfl,fin (N':=N+7) (by omega) (.inr ⟨(s1,used,aok,waits,MH),rfl,g1,ok.u,ok.o,by show s1.g_<=_;omega⟩)⟩
 ·rw [if_neg (by simp only [beq_iff_eq];omega)];have hch:(⟨11,(p:Int),0,0,0,0,opB⟩:Aw)=chB p:=rfl;have ok1: ∀ u pd w b,(0<=u/\u<=(an.length:Int))->pd.Options.length<=2->ij c an (N+7) (s1,u,pd,w,b):=fun u pd w b hu hp=>⟨g1,hu,hp,by show s1.g_<=_;omega⟩;have d0: ∀ {t:KT} {a:List Int},(a=[0]\/a=[1])->ij c an (N+7) t-> ∃ x,C3 (p:Int) (k:Int) t.1 a t.2.1 t.2.2.1 t.2.2.2.1 t.2.2.2.2=some x/\((∃ t',x= .inl (((k - 1:Nat):Int),t')/\ij c an (N+2000) t')\/ ∃ t',x= .inr (.inr t')/\ij c an (N+2000) t'):=fun ha hk'=>by obtain⟨x,q1,q2⟩:=Aat hp ha hk h1 hk' (by omega);exact⟨x,q1,fin (by omega) q2⟩
  rw [hch,Aas,AfA];cases hwb:(waits||MH)with
  | true=>
    have e2:(if(if false=true then true else waits) then true else MH)=true:=by cases waits<;>cases MH<;>simp_all
    simp only [Option.bind_some,e2,if_true];exact d0 (t:=(s1,used,aok,waits,MH)) (.inl rfl) (ok1 _ _ _ _ hu ok.o)
  | false=>
    have e2:(if(if false=true then true else waits) then true else MH)=false:=by cases waits<;>cases MH<;>simp_all
    simp only [Option.bind_some,e2];by_cases hul:used=(an.length:Int)
    ·rw [show gd (false==false) (some false)=some false from rfl];simp only [Option.bind_some,Bool.false_eq_true,if_false];rw [if_pos (by simpa using hul)];have hco:Bg opB=some opB:=by kernel_rfl
     rw [hco];simp only [Option.bind_some];rw [hch,AfA];exact d0 (t:=(s1,used,chB p,true,MH)) (.inl rfl) (ok1 _ _ _ _ hu (Nat.le_refl 2))
    ·rw [show gd (false==false) (some false)=some false from rfl];simp only [Option.bind_some,Bool.false_eq_true,if_false];rw [if_neg (by simpa using hul)];obtain⟨j,rfl⟩: ∃ j:Nat,used=j:=⟨used.toNat,by omega⟩;have hj:j<an.length:=by omega
     obtain⟨b,e3,e4⟩:=AdW p an[j];rw [AD hj];simp only [Option.bind_some];rw [e3];simp only [Option.bind_some];cases b with
     | false=>
       simp only [Bool.not_false,if_true,Option.bind_some];rw [Ao (by omega) (by omega)];exact d0 (t:=(s1,(j:Int)+1,aok,waits,true)) (.inl rfl) (ok1 _ _ _ _ (by omega) ok.o)
     | true=>
       simp only [Bool.not_true,Bool.false_eq_true,if_false];have hcp:Cg an[j]=some an[j]:=if_pos ⟨haL _ (List.getElem_mem hj),by have:=haL _ (List.getElem_mem hj);unfold maxLen;omega⟩;rw [hcp];simp only [Option.bind_some];rw [Ao (by omega) (by omega)];exact d0 (t:=(s1,(j:Int)+1,aok,waits,MH)) (e4 rfl) (ok1 _ _ _ _ (by omega) ok.o)
theorem Aau (hp:p<c.h_.length) (hal:an.length<9223372036854775807) (haL: ∀ a∈an,a.length*8<=140737488355328): ∀ (k M:Nat) (N:Int) (t:KT),k<=7->k<M->ij c an N t->N+2000*k<=800000->
 ∃ x:KT⊕KT,iter (xd an (p:Int)) M ((k:Int),t)=some x/\ij c an (N+2000*k) (Sum.elim id id x):=by
 intro k;induction k with
 | zero=>
   intro M N t hk hM ok hN;obtain⟨M,rfl⟩: ∃ m,M=m+1:=⟨M - 1,by omega⟩;refine⟨.inl t,BD ?_,ok.g,ok.u,ok.o,by have:=ok.n;simp only [Sum.elim_inl,id];omega⟩;unfold xd C4;rw [if_neg (by simp)]
 | succ k ih=>
   intro M N t hk hM ok hN;obtain⟨M,rfl⟩: ∃ m,M=m+1:=⟨M - 1,by omega⟩;obtain⟨x,e1,h⟩:=AfB hp hk (by omega) ok (by omega) hal haL;rcases h with ⟨t',rfl,ok'⟩ | ⟨t',rfl,ok'⟩
   ·obtain⟨y,e2,ok2⟩:=ih M (N+2000) t' (by omega) (by omega) ok' (by omega);refine⟨y,?_,ok2.g,ok2.u,ok2.o,by have:=ok2.n;push_cast;omega⟩;rw [Cc e1];exact e2
   ·exact⟨.inr t',BD e1,ok'.g,ok'.u,ok'.o,by have:=ok'.n;simp only [Sum.elim_inr,id];push_cast;omega⟩
def tk (an:List (List Int)) (l:List Int) (v:List Bl×Int×KT):=C5 an l v.1 v.2.1 v.2.2.1 v.2.2.2.1 v.2.2.2.2.1 v.2.2.2.2.2.1 v.2.2.2.2.2.2
theorem Aav (hal:an.length<9223372036854775807) (haL: ∀ a∈an,a.length*8<=140737488355328) {l:List Int} (hl:l.length<=4) (hlp: ∀ x∈l, ∃ p:Nat,x=(p:Int)/\p<c.h_.length): ∀ (r i M:Nat) (N:Int) (t:KT),i+r=l.length->r<M->ij c an N t->N+14000*r<=800000->
 ∃ t':KT,iter (tk an l) M (opB,(i:Int),t)=some t'/\ij c an (N+14000*r) t':=by
 intro r;induction r with
 | zero=>
   intro i M N t hi hM ok hN;obtain⟨M,rfl⟩: ∃ m,M=m+1:=⟨M - 1,by omega⟩;refine⟨t,BD ?_,ok.g,ok.u,ok.o,by have:=ok.n;omega⟩;unfold tk C5;rw [if_neg (by simp;omega)]
 | succ r ih=>
   intro i M N t hi hM ok hN;obtain⟨M,rfl⟩: ∃ m,M=m+1:=⟨M - 1,by omega⟩;have hil:i<l.length:=by omega
   obtain⟨p,hx,hp⟩:=hlp l[i] (List.getElem_mem hil);obtain⟨x,e1,ok1⟩:=Aau hp hal haL 7 FU N t (by omega) (by unfold FU;omega) ok (by omega);obtain⟨t',e2,ok2⟩:=ih (i+1) M (N+14000) (Sum.elim id id x) (by omega) (by omega) ⟨ok1.g,ok1.u,ok1.o,by have:=ok1.n;omega⟩ (by omega);refine⟨t',?_,ok2.g,ok2.u,ok2.o,by have:=ok2.n;push_cast;omega⟩;rw [Cc (s':=(opB,((i+1:Nat):Int),Sum.elim id id x))]
   ·exact e2
   ·unfold tk C5 jn;dsimp only;rw [if_pos (by simp;omega),AD hil,hx];simp only [Option.bind_some];show (iter (xd an (p:Int)) FU ((7:Int),t)).bind _=_;rw [show ((7:Nat):Int)=7 from rfl]at e1;rw [e1];have hw:Ac ((i:Int)+1)=((i+1:Nat):Int):=by rw [Ao (by omega) (by omega)];rfl
    cases x<;>simp only [Option.bind_some,Sum.elim_inl,Sum.elim_inr,Hp,hw,id]
end
theorem Gk.order {c:Az} {s:Aa} (g:Gk c s) (h2:2<=c.h_.length) (hf:0<=c.Td/\c.Td<c.h_.length): ∃ l,IM s=some l/\l.length<=4/\ ∀ x∈l, ∃ p:Nat,x=(p:Int)/\p<c.h_.length:=by
 have h4:=g.d4;have hlen:=g.len;have hpl:=g.pl;have ha:=g.a1;obtain⟨ps,os,bf,ex,st,wa,co,x8,x9,x10,x11,x12,x13,x14,x15,x16,xe,x18,x19⟩:=s;dsimp only at hlen hpl ha;subst ha;have hk:c.h_.length=2\/c.h_.length=3\/c.h_.length=4:=by omega
 have hF:c.Td=0\/c.Td=1\/c.Td=2\/c.Td=3:=by omega
 rcases hk with hk | hk | hk
 ·match ps,hlen.trans hk,hpl with
  | [a,b],_,hpl=>
    obtain⟨l0,m0,rfl, -, -⟩:=hpl 0 (by simp);obtain⟨l1,m1,rfl, -, -⟩:=hpl 1 (by simp);rw [hk]at hf ⊢;rcases hF with e | e | e | e<;>rw [e]at hf ⊢
    ·exact⟨[0,1],by kernel_rfl,by decide,fun x hx=>⟨x.toNat,by simp at hx;omega,by simp at hx;omega⟩⟩
    ·exact⟨[1,0],by kernel_rfl,by decide,fun x hx=>⟨x.toNat,by simp at hx;omega,by simp at hx;omega⟩⟩
    ·omega
    ·omega
 ·match ps,hlen.trans hk,hpl with
  | [a,b,d],_,hpl=>
    obtain⟨l0,m0,rfl, -, -⟩:=hpl 0 (by simp);obtain⟨l1,m1,rfl, -, -⟩:=hpl 1 (by simp);obtain⟨l2,m2,rfl, -, -⟩:=hpl 2 (by simp);rw [hk]at hf ⊢;rcases hF with e | e | e | e<;>rw [e]at hf ⊢
    ·exact⟨[0,1,2],by kernel_rfl,by decide,fun x hx=>⟨x.toNat,by simp at hx;omega,by simp at hx;omega⟩⟩
    ·exact⟨[1,2,0],by kernel_rfl,by decide,fun x hx=>⟨x.toNat,by simp at hx;omega,by simp at hx;omega⟩⟩
    ·exact⟨[2,0,1],by kernel_rfl,by decide,fun x hx=>⟨x.toNat,by simp at hx;omega,by simp at hx;omega⟩⟩
    ·omega
 ·match ps,hlen.trans hk,hpl with
  | [a,b,d,e'],_,hpl=>
    obtain⟨l0,m0,rfl, -, -⟩:=hpl 0 (by simp);obtain⟨l1,m1,rfl, -, -⟩:=hpl 1 (by simp);obtain⟨l2,m2,rfl, -, -⟩:=hpl 2 (by simp);obtain⟨l3,m3,rfl, -, -⟩:=hpl 3 (by simp);rw [hk]at hf ⊢;rcases hF with e | e | e | e<;>rw [e]at hf ⊢
    ·exact⟨[0,1,2,3],by kernel_rfl,by decide,fun x hx=>⟨x.toNat,by simp at hx;omega,by simp at hx;omega⟩⟩
    ·exact⟨[1,2,3,0],by kernel_rfl,by decide,fun x hx=>⟨x.toNat,by simp at hx;omega,by simp at hx;omega⟩⟩
    ·exact⟨[2,3,0,1],by kernel_rfl,by decide,fun x hx=>⟨x.toNat,by simp at hx;omega,by simp at hx;omega⟩⟩
    ·exact⟨[3,0,1,2],by kernel_rfl,by decide,fun x hx=>⟨x.toNat,by simp at hx;omega,by simp at hx;omega⟩⟩
theorem AfC {c:Az} {an:List (List Int)} {s:Aa} (g:Gk c s) (hn:s.g_<=10000) (h2:2<=c.h_.length) (hf:0<=c.Td/\c.Td<c.h_.length) (hal:an.length<9223372036854775807) (haL: ∀ a∈an,a.length*8<=140737488355328):
 ∃ t:KT,Dm c (s,0) 0 0 0 0 0 0 0 false false an=E6 c (s,0) t.1 t.2.1 t.2.2.1 t.2.2.2.1 t.2.2.2.2/\ij c an 800000 t:=by
 obtain⟨l,e1,hl,hlp⟩:=g.order h2 hf;obtain⟨t,e2,ok⟩:=Aav hal haL hl hlp l.length 0 FU 10000 (s,0,⟨0,0,0,0,0,0,[]⟩,false,false) (by omega) (by unfold FU;omega) ⟨g,⟨Int.le_refl 0,by simp⟩,Nat.zero_le 2,hn⟩ (by omega);refine⟨({{{t.1 with aaf:=1}with Step:=0}with abI:=false},t.2),?_,?_,ok.u,ok.o,?_⟩
 ·unfold Dm jn;dsimp only;rw [g.copy];simp only [Option.bind_some];rw [show IM (⟨s.bk,s.b_,s.AT,s.acv,s.Stack,s.aar,s.ack,s.aaf,s.aaj,s.Step,s.abI,s.Priority,s.Passes,s.g_,s.l_,s.ab2,s.Extra,s.ac9,s.aaK⟩:Aa)=some l from e1];simp only [Option.bind_some];show (iter (tk an l) FU (opB,((0:Nat):Int),(s,0,⟨0,0,0,0,0,0,[]⟩,false,false))).bind _=_;rw [e2];rfl
 ·have g':=ok.g;exact⟨g'.n,g'.m,g'.e1,g'.e2,g'.e3,g'.e4,g'.e5,g'.e6,g'.a1,g'.a2,g'.a3,g'.a4,g'.a5,⟨show (0:Int)<=1 by decide,Int.le_refl 1⟩,rfl,g'.len,g'.pl,g'.ob,g'.asc,g'.cnt,g'.d4,g'.d5,g'.ol⟩
 ·have:=ok.n;show t.1.g_<=_;omega
end Go.PL
