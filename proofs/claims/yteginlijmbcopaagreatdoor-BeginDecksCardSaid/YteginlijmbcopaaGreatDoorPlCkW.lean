/- Plain laws of catalogues: lines, cards. -/
import Derived.Test.YteginlijmbcopaaGreatDoorPlCkV
namespace Go.PL
open Go
set_option maxRecDepth 100000
set_option linter.all false
set_option maxHeartbeats 4000000
def AdG (l:List (List UInt8)) (i:Nat):Bool:=wB (l.getD i default)&&(decide (i=0)||Op.bytesLess (l.getD (i - 1) default) (l.getD i default))
def wU (t:Int):Bool:=(JS .i64 t 6==0)||(t==2||t==4)
def wV (a:Nz):Bool:=decide (0<=a.aiv/\a.aiv<=3/\1<=a.Types/\a.Types<=63/\a.af9.length<=4)&&(wU a.Types&&(List.range a.af9.length).all (AdG a.af9))
theorem Afr {α:Type} [Inhabited α] {l:List α} {i:Nat} (h:i<l.length) (h0:0<i) (q:i<9223372036854775807):idx l (Ac ((i:Int) - 1))=some (l.getD (i - 1) default):=by grind [Ao,VG]
theorem wW (t:Int):Ic t=some (wU t):=by grind [Ic,wU]
theorem wX (a:Nz):Sr a=some (wV a):=by
 unfold wV;by_cases h:a.af9.length<=4
 ·have hk:=Adr (K:=some true) (f:=fun x=>some x) (c:=false) (p:=AdG a.af9) (B:=fun v=>IJ a v) a.af9.length (by omega) (fun i hi=>by
   show IJ a (i:Int)=_;unfold IJ AdG;rw [if_pos (by simp only [bz];omega),VG hi,abT (by omega)];simp only [Option.bind_some,dV];by_cases h0:0<i
   ·grind [Afr,iu]
   ·obtain rfl:i=0:=by omega
    grind [gd]) (by
   simp_all [IJ])
  simp only [Sr,jn,QS,wW,Option.bind_some,iu,hk];grind
 ·simp only [Sr,jn,QS,wW,Option.bind_some,iu];grind
def Ahh (c:Bx):Prop:= ∀ a∈c.z_,Ahe a
def AdH {α:Type} (p:α->Bool) (l:List α):Int:=(l.countP p:Nat)
theorem Ahi {α γ:Type} {l:List α} {q p:α->Bool} {B:Int×Int->Option ((Int×Int)⊕(Int⊕Bool))} {K:Int->Option γ} {f:Bool->Option γ} (hn:l.length<1000)
 (hB: ∀ (i:Nat) (h:i<l.length) (n:Nat),n<=i->B ((n:Int),(i:Int))=some (if q l[i]=true then .inl (((if p l[i]=true then n+1 else n:Nat):Int),(i:Int)+1)else .inr (.inr false))) (hE: ∀ n:Int,B (n,(l.length:Int))=some (.inr (.inl n))):
 (iter B FU (0,0)).bind (Sum.elim K f)=if l.all q=true then K (AdH p l)else f false:=by
 have key: ∀ (k i N n:Nat),i+k=l.length->k<N->n<=i->(iter B N ((n:Int),(i:Int))).bind (Sum.elim K f)=if(l.drop i).all q=true then K ((n+(l.drop i).countP p:Nat):Int)else f false:=by
  intro k;induction k with
  | zero=>
    intro i N n hi hN hni;obtain⟨N,rfl⟩: ∃ M,N=M+1:=⟨N - 1,by omega⟩;obtain rfl:i=l.length:=by omega
    rw [BD (hE _)];simp
  | succ k ih=>
    intro i N n hi hN hni;obtain⟨N,rfl⟩: ∃ M,N=M+1:=⟨N - 1,by omega⟩;have hl:i<l.length:=by omega
    have h:=hB i hl n hni;rw [List.drop_eq_getElem_cons hl,List.all_cons,List.countP_cons];cases hq:q l[i]
    ·simp_all [BD]
    ·rw [hq]at h;rw [Cc h,Bool.true_and];have:=ih (i+1) N (if p l[i]=true then n+1 else n) (by omega) (by omega) (by grind);grind
 have:=key l.length 0 FU 0 (by omega) (by unfold FU;omega) (by omega);simpa [AdH] using this
def AdI (a:AL):Bool:=a.Kind==2
def zCo:AG:=⟨0,0,⟨0,0,0,0,0⟩⟩
def wY (c:Bx) (n:Int):Bool:=if JS .i64 c.agD.Types 6 != 0 then !c.Token&&(c.Keys==0&&((c.z_.length:Int)==1&&n==1))else n==0&&((!c.Token&&JS .i64 c.agD.Types 32==0)||c.amj==zCo)
def Aba (c:Bx):Bool:=SA c.Name&&(oS c.amj&&(wV c.agD&&(decide (0<=c.Keys/\c.Keys<=131071)&&decide (0<=c.Color/\c.Color<=31))))
def Abb (c:Bx):Bool:=decide (0<=c.Power/\c.Power<=99/\0<=c.acS/\c.acS<=99)&&(JS .i64 c.agD.Types 1 != 0||(c.Power==0&&c.acS==0))
def wZ (c:Bx):Bool:=Aba c&&(Abb c&&(decide (c.z_.length<=8)&&(c.z_.all abB&&wY c (AdH AdI c.z_))))
theorem rng (a b x:Int):(if decide (a<=x) then decide (x<=b)else false)=decide (a<=x/\x<=b):=by grind
theorem onn (a b:Bool):(a|| !(!a&&b))=(a|| !b):=by grind
theorem onm (a b c:Bool):(a||(!(!a&&b)&&c))=(a||(!b&&c)):=by grind
theorem Abc (c:Bx) (n:Int):Ly c n=some (wY c n):=by unfold Ly QM LL wY;rw [show (⟨(0:Int),(0:Int),(⟨(0:Int),(0:Int),(0:Int),(0:Int),(0:Int)⟩:A5 (Int))⟩:AG)=zCo from rfl];simp only [Option.bind_some,iu,bne];grind
theorem AdJ (c:Bx):Sz c=some (wZ c):=by
 unfold wZ;by_cases h8:c.z_.length<=8
 ·have hk:=Ahi (l:=c.z_) (q:=abB) (p:=AdI) (K:=fun n=>Ly c n) (f:=fun x=>some x) (B:=fun v=>IQ c v.1 v.2) (by omega) (fun i hi n hn=>by show IQ c (n:Int) (i:Int)=_;simp only [IQ,VD,jn];rw [if_pos (by simp only [bz];omega),AD hi,abT (by omega),abT (by omega)];grind [Ahg,AdI]) (by simp_all [IQ])
  simp only [Abc]at hk;simp only [Sz,jn,hZ,ib,wX,F8,IG,rng,Option.bind_some,hk,Abc,show decide ((8:Int)<(c.z_.length:Int))=false by simp;omega,Bool.false_eq_true,if_false,gdB,zb,zc,ifN,ifP,bT,bF,nnB,onn,onm,aan,ltN];unfold Aba Abb;rw [decide_eq_true h8,show (JS .i64 c.agD.Types 1 != 0)= !(JS .i64 c.agD.Types 1==0)from rfl];simp only [bne,Bool.decide_and,nnB,Bool.not_or,Bool.not_and,Bool.and_assoc,Bool.true_and,Bool.not_true,Bool.or_false,Bool.false_or]
 ·simp only [Sz,jn,hZ,ib,wX,F8,IG,rng,Option.bind_some,iu];rw [show decide ((8:Int)<(c.z_.length:Int))=true by simp;omega,decide_eq_false h8];simp
end Go.PL
