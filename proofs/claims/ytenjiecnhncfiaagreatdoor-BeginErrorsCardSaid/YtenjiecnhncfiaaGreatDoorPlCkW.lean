/- Plain laws of catalogues: lines, cards. -/
import Derived.Test.YtenjiecnhncfiaaGreatDoorPlCkV
namespace Go.PL
open Go
set_option maxRecDepth 100000
set_option linter.all false
set_option maxHeartbeats 4000000
def rq (l:List (List UInt8)) (i:Nat):Bool:=V8 (l.getD i default)&&(decide (i=0)||Op.bytesLess (l.getD (i - 1) default) (l.getD i default))
def PH (t:Int):Bool:=(Fk .i64 t 6==0)||(t==2||t==4)
def cS (a:I1):Bool:=decide (0<=a.aef/\a.aef<=3/\1<=a.Types/\a.Types<=63/\a.abd.length<=4)&&(PH a.Types&&(List.range a.abd.length).all (rq a.abd))
theorem AcH {α:Type} [Inhabited α] {l:List α} {i:Nat} (h:i<l.length) (h0:0<i) (q:i<9223372036854775807):idx l (Ad ((i:Int) - 1))=some (l.getD (i - 1) default):=by rw [AU (by omega) (by omega),show (i:Int) - 1=((i - 1:Nat):Int) by omega,Ol (by omega)]
theorem yX (t:Int):HT t=some (PH t):=by unfold HT PH;simp only [Option.bind_some,SR,Bool.or_assoc]
def AcI (t:Int):Bool:=match Li t 1,Li t 2 with
 | some x,some y=>((t==2||t==4)||(!x&& !y))==PH t
 | _,_=>false
theorem AeZ:((List.range 64).all fun t=>AcI (t:Int))=true:=by kernel_rfl
theorem AbO {t:Int} (h:1<=t/\t<=63): ∃ x y,Li t 1=some x/\Li t 2=some y/\((t==2||t==4)||(!x&& !y))=PH t:=by
 have:=List.all_eq_true.1 AeZ t.toNat (List.mem_range.2 (by omega));rw [Int.toNat_of_nonneg (by omega)]at this;unfold AcI at this;split at this
 ·rename_i x y h1 h2;exact⟨x,y,h1,h2,by simpa using this⟩
 ·cases this
theorem yY (a:I1):T1 a=some (cS a):=by
 unfold cS;by_cases h:a.abd.length<=4
 ·have hk:=yp (K:=some true) (f:=fun x=>some x) (c:=false) (p:=rq a.abd) (B:=fun v=>Gl a v) a.abd.length (by omega) (fun i hi=>by
   show Gl a (i:Int)=_;unfold Gl rq;rw [if_pos (by simp only [bz];omega),Ol hi,aal (by omega)];simp only [Option.bind_some,Xr];by_cases h0:0<i
   ·rw [AcH hi h0 (by omega)];simp only [QC,Option.bind_some,show decide ((0:Int)<(i:Int))=true by simp;omega,show decide (i=0)=false by simp;omega];generalize a.abd.getD (i - 1) default=u;generalize a.abd.getD i default=v;cases V8 v<;>cases h2:Op.bytesLess u v<;>simp [h2]
   ·obtain rfl:i=0:=by omega
    cases h1:V8 (a.abd.getD 0 default)<;>simp [gd]) (by
   show Gl a _=_;unfold Gl;rw [if_neg (by simp only [bz];omega)])
  simp only [T1,jn,RJ,yX,Option.bind_some,QC,hk];generalize PH a.Types=x;generalize (List.range a.abd.length).all (rq a.abd)=y;grind
 ·simp only [T1,jn,RJ,yX,Option.bind_some,QC];generalize PH a.Types=x;rw [if_pos (by simp only [bz];omega),decide_eq_false (by omega)];rfl
theorem yZ (a:I1):cA a=some (cS a):=by
 unfold cS;by_cases h:a.aef<0\/3<a.aef\/a.Types<1\/63<a.Types\/4<a.abd.length
 ·simp only [cA,jn,Option.bind_some];rw [if_pos (by simp only [bz];omega),decide_eq_false (by omega)];rfl
 ·obtain⟨x,y,hx,hy,hc⟩:=AbO (t:=a.Types) (by omega);have hk:=yp (K:=VX a) (f:=fun x=>some x) (c:=false) (p:=rq a.abd) (B:=fun v=>HE a v) a.abd.length (by omega) (fun i hi=>by
   show HE a (i:Int)=_;unfold HE rq;rw [if_pos (by simp only [bz];omega),Ol hi,aal (by omega)];simp only [Option.bind_some,cO];by_cases h0:0<i
   ·rw [AcH hi h0 (by omega)];simp only [QC,Option.bind_some,show decide ((0:Int)<(i:Int))=true by simp;omega,show decide (i=0)=false by simp;omega];generalize a.abd.getD (i - 1) default=u;generalize a.abd.getD i default=v;cases V8 v<;>cases h2:Op.bytesLess u v<;>simp [h2]
   ·obtain rfl:i=0:=by omega
    cases h1:V8 (a.abd.getD 0 default)<;>simp [gd]) (by
   show HE a _=_;unfold HE;rw [if_neg (by simp only [bz];omega)])
  simp only [cA,jn,Option.bind_some];rw [if_neg (by simp only [bz];omega),hk,decide_eq_true (by omega),Bool.true_and, <-hc];unfold VX;simp only [hx,hy,QC,Option.bind_some];cases (List.range a.abd.length).all (rq a.abd)<;>cases a.Types==2<;>cases a.Types==4<;>cases x<;>cases y<;>rfl
def AgB (c:AO):Prop:= ∀ a∈c.g_,AbN a
def Ae0 {α:Type} (p:α->Bool) (l:List α):Int:=(l.countP p:Nat)
theorem AgC {α γ:Type} {l:List α} {q p:α->Bool} {B:Int×Int->Option ((Int×Int)⊕(Int⊕Bool))} {K:Int->Option γ} {f:Bool->Option γ} (hn:l.length<1000)
 (hB: ∀ (i:Nat) (h:i<l.length) (n:Nat),n<=i->B ((n:Int),(i:Int))=some (if q l[i]=true then .inl (((if p l[i]=true then n+1 else n:Nat):Int),(i:Int)+1)else .inr (.inr false))) (hE: ∀ n:Int,B (n,(l.length:Int))=some (.inr (.inl n))):
 (iter B FU (0,0)).bind (Sum.elim K f)=if l.all q=true then K (Ae0 p l)else f false:=by
 have key: ∀ (k i N n:Nat),i+k=l.length->k<N->n<=i->(iter B N ((n:Int),(i:Int))).bind (Sum.elim K f)=if(l.drop i).all q=true then K ((n+(l.drop i).countP p:Nat):Int)else f false:=by
  intro k;induction k with
  | zero=>
    intro i N n hi hN hni;obtain⟨N,rfl⟩: ∃ M,N=M+1:=⟨N - 1,by omega⟩;obtain rfl:i=l.length:=by omega
    rw [Cr (hE _)];simp
  | succ k ih=>
    intro i N n hi hN hni;obtain⟨N,rfl⟩: ∃ M,N=M+1:=⟨N - 1,by omega⟩;have hl:i<l.length:=by omega
    have h:=hB i hl n hni;rw [List.drop_eq_getElem_cons hl,List.all_cons,List.countP_cons];cases hq:q l[i]
    ·rw [hq]at h;rw [Cr h];rfl
    ·rw [hq]at h;rw [CH h,Bool.true_and];have:=ih (i+1) N (if p l[i]=true then n+1 else n) (by omega) (by omega) (by split<;>omega);refine Eq.trans this ?_;have e:(if p l[i]=true then n+1 else n)+(l.drop (i+1)).countP p=n+((l.drop (i+1)).countP p+if p l[i]=true then 1 else 0):=by split<;>omega
     rw [e]
 have:=key l.length 0 FU 0 (by omega) (by unfold FU;omega) (by omega);simpa [Ae0] using this
def y6 (a:AE):Bool:=a.Kind==2
def zCo:AB:=⟨0,0,⟨0,0,0,0,0⟩⟩
def od (c:AO) (n:Int):Bool:=if Fk .i64 c.aci.Types 6 != 0 then !c.Token&&(c.Keys==0&&((c.g_.length:Int)==1&&n==1))else n==0&&((!c.Token&&Fk .i64 c.aci.Types 32==0)||c.ae3==zCo)
def tk (c:AO):Bool:=IE c.Name&&(oF c.ae3&&(cS c.aci&&(decide (0<=c.Keys/\c.Keys<=131071)&&decide (0<=c.Color/\c.Color<=31))))
def y7 (c:AO):Bool:=decide (0<=c.Power/\c.Power<=99/\0<=c.v_/\c.v_<=99)&&(Fk .i64 c.aci.Types 1 != 0||(c.Power==0&&c.v_==0))
def cT (c:AO):Bool:=tk c&&(y7 c&&(decide (c.g_.length<=8)&&(c.g_.all abB&&od c (Ae0 y6 c.g_))))
theorem AgD {t:Int} (h:PH t=true):(Fk .i64 t 6 != 0)=(t==2||t==4):=by
 unfold PH at h;by_cases h2:t=2
 ·subst h2;rfl
 ·by_cases h4:t=4
  ·subst h4;rfl
  ·have e2:(t==2)=false:=by simpa using h2
   have e4:(t==4)=false:=by simpa using h4
   rw [e2,e4]at h ⊢;unfold bne;simpa using h
theorem rng (a b x:Int):(if decide (a<=x) then decide (x<=b)else false)=decide (a<=x/\x<=b):=by rw [Bool.eq_iff_iff];simp
theorem onn (a b:Bool):(a|| !(!a&&b))=(a|| !b):=by cases a<;>rfl
theorem onm (a b c:Bool):(a||(!(!a&&b)&&c))=(a||(!b&&c)):=by cases a<;>rfl
theorem AcJ (c:AO) (n:Int):Ll c n=some (od c n):=by unfold Ll RD Lz od;rw [show (⟨(0:Int),(0:Int),(⟨(0:Int),(0:Int),(0:Int),(0:Int),(0:Int)⟩:A5 (Int))⟩:AB)=zCo from rfl];simp only [Option.bind_some,QC,bne];grind
theorem AgF (c:AO) (n:Int) (h:PH c.aci.Types=true):NO c n=some (od c n):=by unfold NO bO od;rw [show (⟨(0:Int),(0:Int),(⟨(0:Int),(0:Int),(0:Int),(0:Int),(0:Int)⟩:A5 (Int))⟩:AB)=zCo from rfl,AgD h];simp only [Option.bind_some,SR];grind
theorem Ae1 (c:AO):Uo c=some (cT c):=by
 unfold cT;by_cases h8:c.g_.length<=8
 ·have hk:=AgC (l:=c.g_) (q:=abB) (p:=y6) (K:=fun n=>Ll c n) (f:=fun x=>some x) (B:=fun v=>Gn c v.1 v.2) (by omega) (fun i hi n hn=>by
   show Gn c (n:Int) (i:Int)=_;simp only [Gn,Xo,jn];rw [if_pos (by simp only [bz];omega),BY hi,aal (by omega),aal (by omega)];simp only [Option.bind_some,Agz,y6];cases abB c.g_[i]<;>by_cases hq:(c.g_[i].Kind ==2)=true<;>simp [hq]) (fun n=>by
   show Gn c n _=_;unfold Gn;rw [if_neg (by simp only [bz];omega)])
  simp only [AcJ]at hk;simp only [Uo,jn,kA,kB,yY,FN,Is,rng,Option.bind_some,hk,AcJ,show decide ((8:Int)<(c.g_.length:Int))=false by simp;omega,Bool.false_eq_true,if_false,oC,Vp,SR,oD,sK,bT,bF,nnB,onn,onm,aan,ltN];unfold tk y7;rw [decide_eq_true h8,show (Fk .i64 c.aci.Types 1 != 0)= !(Fk .i64 c.aci.Types 1==0)from rfl];simp only [bne,Bool.decide_and,nnB,Bool.not_or,Bool.not_and,Bool.and_assoc,Bool.true_and,Bool.not_true,Bool.or_false,Bool.false_or]
 ·simp only [Uo,jn,kA,kB,yY,FN,Is,rng,Option.bind_some,QC];rw [show decide ((8:Int)<(c.g_.length:Int))=true by simp;omega,decide_eq_false h8];simp
theorem AgG {c:AO} (hl:AgB c):V2 c=some (cT c):=by
 unfold cT;by_cases h8:c.g_.length<=8
 ·cases hL:cS c.aci
  ·simp only [V2,jn,nU,Uq,yZ,Pf,rng,Option.bind_some,QC,hL];unfold tk;rw [hL];cases IE c.Name<;>cases oF c.ae3<;>simp
  ·have hc:PH c.aci.Types=true:=by unfold cS at hL;simp only [Bool.and_eq_true]at hL;exact hL.2.1
   have hk:=AgC (l:=c.g_) (q:=abB) (p:=y6) (K:=fun n=>NO c n) (f:=fun x=>some x) (B:=fun v=>HL c v.1 v.2) (by omega) (fun i hi n hn=>by
    show HL c (n:Int) (i:Int)=_;simp only [HL,cJ,jn];rw [if_pos (by simp only [bz];omega),BY hi,aal (by omega),aal (by omega)];simp only [Option.bind_some,AgA (hl _ (List.getElem_mem hi)),y6];cases abB c.g_[i]<;>by_cases hq:(c.g_[i].Kind ==2)=true<;>simp [hq]) (fun n=>by
    show HL c n _=_;unfold HL;rw [if_neg (by simp only [bz];omega)])
   simp only [AgF c _ hc]at hk;simp only [V2,jn,nU,Uq,yZ,Pf,rng,Option.bind_some,hk,AgF c _ hc,hL,Jg,show decide ((8:Int)<(c.g_.length:Int))=false by simp;omega,oC,Vp,SR,oD,sK,bT,bF,nnB,onn,onm,aan,ltN];unfold tk y7;rw [hL,decide_eq_true h8,show (Fk .i64 c.aci.Types 1 != 0)= !(Fk .i64 c.aci.Types 1==0)from rfl];simp only [bne,Bool.decide_and,nnB,Bool.not_or,Bool.not_and,Bool.and_assoc,Bool.true_and,Bool.not_true,Bool.or_false,Bool.false_or]
 ·simp only [V2,jn,nU,Uq,yZ,Pf,rng,Option.bind_some,QC,Jg];rw [show decide ((8:Int)<(c.g_.length:Int))=true by simp;omega,decide_eq_false h8];simp
end Go.PL
