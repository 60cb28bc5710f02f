/- Plain laws of catalogues: lines, cards. -/
import Derived.Test.YteginlijmbcopaaGreatDoorPlCkV
namespace Go.PL
open Go
set_option maxRecDepth 100000
set_option linter.all false
set_option maxHeartbeats 4000000
def AaM (l:List (List UInt8)) (i:Nat):Bool:=pH (l.getD i default)&&(decide (i=0)||Op.bytesLess (l.getD (i - 1) default) (l.getD i default))
def UL (t:Int):Bool:=(Fn .i64 t 6==0)||(t==2||t==4)
def cX (a:Ja):Bool:=decide (0<=a.afQ/\a.afQ<=3/\1<=a.Types/\a.Types<=63/\a.adK.length<=4)&&(UL a.Types&&(List.range a.adK.length).all (AaM a.adK))
theorem Aep {α:Type} [Inhabited α] {l:List α} {i:Nat} (h:i<l.length) (h0:0<i) (q:i<9223372036854775807):idx l (Aa ((i:Int) - 1))=some (l.getD (i - 1) default):=by grind [A7,OB]
theorem AaN (t:Int):H5 t=some (UL t):=by grind [H5,UL]
def Aeq (t:Int):Bool:=match Lw t 1,Lw t 2 with
 | some x,some y=>((t==2||t==4)||(!x&& !y))==UL t
 | _,_=>false
theorem AgI:((List.range 64).all fun t=>Aeq (t:Int))=true:=by kernel_rfl
theorem Ady {t:Int} (h:1<=t/\t<=63): ∃ x y,Lw t 1=some x/\Lw t 2=some y/\((t==2||t==4)||(!x&& !y))=UL t:=by have:=List.all_eq_true.1 AgI t.toNat (List.mem_range.2 (by omega));grind [Aeq]
theorem AaO (a:Ja):Uh a=some (cX a):=by
 unfold cX;by_cases h:a.adK.length<=4
 ·have hk:=Aah (K:=some true) (f:=fun x=>some x) (c:=false) (p:=AaM a.adK) (B:=fun v=>IF a v) a.adK.length (by omega) (fun i hi=>by
   show IF a (i:Int)=_;unfold IF AaM;rw [if_pos (by simp only [bz];omega),OB hi,Tk (by omega)];simp only [Option.bind_some,XK];by_cases h0:0<i
   ·grind [Aep,RP]
   ·obtain rfl:i=0:=by omega
    grind [gd]) (by
   simp_all [IF])
  simp only [Uh,jn,R5,AaN,Option.bind_some,RP,hk];grind
 ·simp only [Uh,jn,R5,AaN,Option.bind_some,RP];grind
theorem AaP (a:Ja):cI a=some (cX a):=by
 unfold cX;by_cases h:a.afQ<0\/3<a.afQ\/a.Types<1\/63<a.Types\/4<a.adK.length
 ·simp only [cI,jn,Option.bind_some];grind
 ·obtain⟨x,y,hx,hy,hc⟩:=Ady (t:=a.Types) (by omega);have hk:=Aah (K:=Wc a) (f:=fun x=>some x) (c:=false) (p:=AaM a.adK) (B:=fun v=>KQ a v) a.adK.length (by omega) (fun i hi=>by
   show KQ a (i:Int)=_;unfold KQ AaM;rw [if_pos (by simp only [bz];omega),OB hi,Tk (by omega)];simp only [Option.bind_some,cU];by_cases h0:0<i
   ·grind [Aep,RP]
   ·obtain rfl:i=0:=by omega
    grind [gd]) (by
   simp_all [KQ])
  simp only [cI,jn,Option.bind_some];rw [if_neg (by simp only [bz];omega),hk,decide_eq_true (by omega),Bool.true_and, <-hc];unfold Wc;simp only [hx,hy,RP,Option.bind_some];grind
def Ain (c:AO):Prop:= ∀ a∈c.j_,Adx a
def AgJ {α:Type} (p:α->Bool) (l:List α):Int:=(l.countP p:Nat)
theorem Aio {α γ:Type} {l:List α} {q p:α->Bool} {B:Int×Int->Option ((Int×Int)⊕(Int⊕Bool))} {K:Int->Option γ} {f:Bool->Option γ} (hn:l.length<1000)
 (hB: ∀ (i:Nat) (h:i<l.length) (n:Nat),n<=i->B ((n:Int),(i:Int))=some (if q l[i]=true then .inl (((if p l[i]=true then n+1 else n:Nat):Int),(i:Int)+1)else .inr (.inr false))) (hE: ∀ n:Int,B (n,(l.length:Int))=some (.inr (.inl n))):
 (iter B FU (0,0)).bind (Sum.elim K f)=if l.all q=true then K (AgJ p l)else f false:=by
 have key: ∀ (k i N n:Nat),i+k=l.length->k<N->n<=i->(iter B N ((n:Int),(i:Int))).bind (Sum.elim K f)=if(l.drop i).all q=true then K ((n+(l.drop i).countP p:Nat):Int)else f false:=by
  intro k;induction k with
  | zero=>
    intro i N n hi hN hni;obtain⟨N,rfl⟩: ∃ M,N=M+1:=⟨N - 1,by omega⟩;obtain rfl:i=l.length:=by omega
    rw [Cu (hE _)];simp
  | succ k ih=>
    intro i N n hi hN hni;obtain⟨N,rfl⟩: ∃ M,N=M+1:=⟨N - 1,by omega⟩;have hl:i<l.length:=by omega
    have h:=hB i hl n hni;rw [List.drop_eq_getElem_cons hl,List.all_cons,List.countP_cons];cases hq:q l[i]
    ·simp_all [Cu]
    ·rw [hq]at h;rw [CM h,Bool.true_and];have:=ih (i+1) N (if p l[i]=true then n+1 else n) (by omega) (by omega) (by grind);grind
 have:=key l.length 0 FU 0 (by omega) (by unfold FU;omega) (by omega);simpa [AgJ] using this
def AaQ (a:AE):Bool:=a.Kind==2
def zCo:Az:=⟨0,0,⟨0,0,0,0,0⟩⟩
def pP (c:AO) (n:Int):Bool:=if Fn .i64 c.adu.Types 6 != 0 then !c.Token&&(c.Keys==0&&((c.j_.length:Int)==1&&n==1))else n==0&&((!c.Token&&Fn .i64 c.adu.Types 32==0)||c.akL==zCo)
def uV (c:AO):Bool:=OC c.Name&&(sY c.akL&&(cX c.adu&&(decide (0<=c.Keys/\c.Keys<=131071)&&decide (0<=c.Color/\c.Color<=31))))
def AaR (c:AO):Bool:=decide (0<=c.Power/\c.Power<=99/\0<=c.abv/\c.abv<=99)&&(Fn .i64 c.adu.Types 1 != 0||(c.Power==0&&c.abv==0))
def pQ (c:AO):Bool:=uV c&&(AaR c&&(decide (c.j_.length<=8)&&(c.j_.all abB&&pP c (AgJ AaQ c.j_))))
theorem Aip {t:Int} (h:UL t=true):(Fn .i64 t 6 != 0)=(t==2||t==4):=by
 unfold UL at h;by_cases h2:t=2
 ·subst h2;rfl
 ·by_cases h4:t=4
  ·subst h4;rfl
  grind
theorem rng (a b x:Int):(if decide (a<=x) then decide (x<=b)else false)=decide (a<=x/\x<=b):=by grind
theorem onn (a b:Bool):(a|| !(!a&&b))=(a|| !b):=by grind
theorem onm (a b c:Bool):(a||(!(!a&&b)&&c))=(a||(!b&&c)):=by grind
theorem Aer (c:AO) (n:Int):LA c n=some (pP c n):=by unfold LA RY LP pP;rw [show (⟨(0:Int),(0:Int),(⟨(0:Int),(0:Int),(0:Int),(0:Int),(0:Int)⟩:A5 (Int))⟩:Az)=zCo from rfl];simp only [Option.bind_some,RP,bne];grind
theorem Air (c:AO) (n:Int) (h:UL c.adu.Types=true):N0 c n=some (pP c n):=by unfold N0 bW pP;rw [show (⟨(0:Int),(0:Int),(⟨(0:Int),(0:Int),(0:Int),(0:Int),(0:Int)⟩:A5 (Int))⟩:Az)=zCo from rfl,Aip h];simp only [Option.bind_some,ba];grind
theorem AgK (c:AO):UD c=some (pQ c):=by
 unfold pQ;by_cases h8:c.j_.length<=8
 ·have hk:=Aio (l:=c.j_) (q:=abB) (p:=AaQ) (K:=fun n=>LA c n) (f:=fun x=>some x) (B:=fun v=>IJ c v.1 v.2) (by omega) (fun i hi n hn=>by show IJ c (n:Int) (i:Int)=_;simp only [IJ,XH,jn];rw [if_pos (by simp only [bz];omega),BU hi,Tk (by omega),Tk (by omega)];grind [Ail,AaQ]) (by simp_all [IJ])
  simp only [Aer]at hk;simp only [UD,jn,ly,lA,AaO,FX,Iz,rng,Option.bind_some,hk,Aer,show decide ((8:Int)<(c.j_.length:Int))=false by simp;omega,Bool.false_eq_true,if_false,qe,dc,ba,qf,ux,bT,bF,nnB,onn,onm,aan,ltN];unfold uV AaR;rw [decide_eq_true h8,show (Fn .i64 c.adu.Types 1 != 0)= !(Fn .i64 c.adu.Types 1==0)from rfl];simp only [bne,Bool.decide_and,nnB,Bool.not_or,Bool.not_and,Bool.and_assoc,Bool.true_and,Bool.not_true,Bool.or_false,Bool.false_or]
 ·simp only [UD,jn,ly,lA,AaO,FX,Iz,rng,Option.bind_some,RP];rw [show decide ((8:Int)<(c.j_.length:Int))=true by simp;omega,decide_eq_false h8];simp
theorem Ais {c:AO} (hl:Ain c):Wi c=some (pQ c):=by
 unfold pQ;by_cases h8:c.j_.length<=8
 ·cases hL:cX c.adu
  ·simp only [Wi,jn,pG,UH,AaP,Pr,rng,Option.bind_some,RP,hL];grind [uV]
  ·have hc:UL c.adu.Types=true:=by simp_all [cX]
   have hk:=Aio (l:=c.j_) (q:=abB) (p:=AaQ) (K:=fun n=>N0 c n) (f:=fun x=>some x) (B:=fun v=>KT c v.1 v.2) (by omega) (fun i hi n hn=>by show KT c (n:Int) (i:Int)=_;simp only [KT,cR,jn];rw [if_pos (by simp only [bz];omega),BU hi,Tk (by omega),Tk (by omega)];simp only [Option.bind_some,Aim (hl _ (List.getElem_mem hi)),AaQ];grind) (by simp_all [KT])
   simp only [Air c _ hc]at hk;simp only [Wi,jn,pG,UH,AaP,Pr,rng,Option.bind_some,hk,Air c _ hc,hL,Jp,show decide ((8:Int)<(c.j_.length:Int))=false by simp;omega,qe,dc,ba,qf,ux,bT,bF,nnB,onn,onm,aan,ltN];unfold uV AaR;rw [hL,decide_eq_true h8,show (Fn .i64 c.adu.Types 1 != 0)= !(Fn .i64 c.adu.Types 1==0)from rfl];simp only [bne,Bool.decide_and,nnB,Bool.not_or,Bool.not_and,Bool.and_assoc,Bool.true_and,Bool.not_true,Bool.or_false,Bool.false_or]
 ·simp only [Wi,jn,pG,UH,AaP,Pr,rng,Option.bind_some,RP,Jp];rw [show decide ((8:Int)<(c.j_.length:Int))=true by simp;omega,decide_eq_false h8];simp
end Go.PL
