/- Plain laws of states: words, subtypes, filters. -/
import Derived.Test.YteginlijmbcopaaGreatDoorTqtoPlPx
import Derived.Lib.IndexMore
import Derived.Test.YteginlijmbcopaaGreatDoorPlBkD3
open List (mem_range all_eq_true)
namespace Go.PL
open Go
set_option maxRecDepth 100000
set_option linter.all false
set_option maxHeartbeats 1000000
theorem VG {α:Type} [Inhabited α] {l:List α} {i:Nat} (h:i<l.length):idx l (i:Int)=some (l.getD i default):=by rw [AD h,qj h]
theorem abT {i:Nat} (h:i<9223372036854775807):Ac ((i:Int)+1)=(i:Int)+1:=by grind [Ao]
theorem Adr {β γ:Type} {p:Nat->Bool} {c:β} {B:Int->Option (Int⊕(Unit⊕β))} {K:Option γ} {f:β->Option γ} (n:Nat) (hn:n<9223372036854775807)
 (hB: ∀ i:Nat,i<n->B (i:Int)=some (if p i=true then .inl ((i:Int)+1)else .inr (.inr c))) (hE:B (n:Int)=some (.inr (.inl ()))):
 (iter B FU 0).bind (Sum.elim (fun _=>K) f)=if(List.range n).all p=true then K else f c:=by
 have key: ∀ (k i N:Nat),i+k=n->k<N->(iter B N (i:Int)).bind (Sum.elim (fun _=>K) f)=if(List.range' i k).all p=true then K else f c:=by
  intro k;induction k with
  | zero=>
    intro i N hi hN;obtain⟨N,rfl⟩: ∃ M,N=M+1:=⟨N - 1,by omega⟩;obtain rfl:i=n:=by omega
    rw [BD hE];rfl
  | succ k ih=>
    intro i N hi hN;obtain⟨N,rfl⟩: ∃ M,N=M+1:=⟨N - 1,by omega⟩;have h:=hB i (by omega);have:=ih (i+1) N (by omega) (by omega);rw [List.range'_succ,List.all_cons];cases hp:p i
    ·simp_all [BD]
    ·rw [Cc (by rw [h,hp];rfl),Bool.true_and];exact this
 have:=key n 0 FU (by omega) (by unfold FU;omega);simp_all
theorem lD:((List.range 64).all fun a=>(List.range 64).all fun b=>JQ (a:Int) (b:Int) 63==some (JS .i64 a b==0))=true:=by kernel_rfl
theorem lE:((List.range 32).all fun a=>(List.range 32).all fun b=>JQ (a:Int) (b:Int) 31==some (JS .i64 a b==0))=true:=by kernel_rfl
theorem zN (a b:Int):JQ a b 63=some (decide (0<=a/\a<=63/\0<=b/\b<=63)&&(JS .i64 a b==0)):=by
 by_cases h:0<=a/\a<=63/\0<=b/\b<=63
 ·have t:=lD;rw [all_eq_true]at t;have t1:=t a.toNat (mem_range.2 (by omega));rw [all_eq_true]at t1;have t2:=t1 b.toNat (mem_range.2 (by omega));grind
 ·have:(if(if(if decide (a<0)=true then true else decide (63<a))=true then true else decide (b<0)) then true else decide (63<b))=true:=by grind
  simp_all [JQ,decide_eq_false]
theorem zO (a b:Int):JQ a b 31=some (decide (0<=a/\a<=31/\0<=b/\b<=31)&&(JS .i64 a b==0)):=by
 by_cases h:0<=a/\a<=31/\0<=b/\b<=31
 ·have t:=lE;rw [all_eq_true]at t;have t1:=t a.toNat (mem_range.2 (by omega));rw [all_eq_true]at t1;have t2:=t1 b.toNat (mem_range.2 (by omega));grind
 ·have:(if(if(if decide (a<0)=true then true else decide (31<a))=true then true else decide (b<0)) then true else decide (31<b))=true:=by grind
  simp_all [JQ,decide_eq_false]
def me (s:List UInt8) (i:Nat):Int:=(s.getD i 0).toNat
def okc (c:Int):Bool:=decide ((97<=c/\c<=122)\/(48<=c/\c<=57)\/c=45)
def dbl (s:List UInt8) (i:Nat):Bool:=decide (0<i/\me s i=45/\me s (i - 1)=45)
def SA (s:List UInt8):Bool:=decide (1<=s.length/\s.length<=32/\(97<=me s 0/\me s 0<=122)/\me s (s.length - 1) ≠ 45)&&(List.range s.length).all fun i=>okc (me s i)&& !dbl s i
theorem wz {s:List UInt8} {i:Nat} (h:i<s.length):SZ s (i:Int)=some (me s i):=by unfold SZ;rw [if_pos (by omega)];rfl
theorem lF (s:List UInt8) (i:Nat):Lib.occAt s [45,45] i=true↔i+1<s.length/\me s i=45/\me s (i+1)=45:=by
 unfold Lib.occAt me;have h1:s.getD i 0=(s.drop i).getD 0 0:=by grind
 have h2:s.getD (i+1) 0=(s.drop i).getD 1 0:=by grind
 have h3:(s.drop i).length =s.length - i:=List.length_drop;rw [h1,h2];have e: ∀ c:UInt8,((c.toNat:Int)=45)↔c=45:=fun c=>by
  constructor
  ·intro h;apply UInt8.toNat_inj.1;grind
  simp_all
 rw [e,e];generalize s.drop i=l at *
 match l,h3 with
 | [],h3=>grind
 | [a],h3=>grind
 | a::b::t,h3=>
   grind
theorem bi (s:List UInt8):Lib.contains s [45,45]=(List.range s.length).any (dbl s):=by
 rw [Bool.eq_iff_iff];unfold Lib.contains;rw [decide_eq_true_iff,List.any_eq_true];rcases Lib.index_spec s [45,45]with ⟨h1,h2⟩ | ⟨i,h1,h2,h3,_⟩
 ·rw [h1];refine⟨fun h=>by omega,?_⟩;rintro⟨j,hj,hd⟩;have hj:=mem_range.1 hj;unfold dbl at hd;have hd:=of_decide_eq_true hd;have:=(lF s (j - 1)).2 ⟨by omega,hd.2.2,by rw [show j - 1+1=j by omega];exact hd.2.1⟩;grind
 ·rw [h1];refine⟨fun _=>?_,fun _=>by omega⟩;have:=(lF s i).1 h3;exact⟨i+1,(by grind),decide_eq_true ⟨by omega,this.2.2,this.2.1⟩⟩
theorem sZ {s:List UInt8} {i:Nat} (h:i<s.length):idx (Eg s) (i:Int)=some (me s i):=by grind [Eg,VG,me]
theorem hZ (s:List UInt8):Pq s=some (SA s):=by
 unfold Pq;by_cases h:1<=s.length/\s.length<=32
 ·have h0:SZ s 0=some (me s 0):=wz (i:=0) (by omega);have hl:SZ s (Ac ((s.length:Int) - 1))=some (me s (s.length - 1)):=by grind [Ao,wz]
  have hc:JM s dF=some ((List.range s.length).any (dbl s)):=by unfold JM;rw [if_pos (by omega), <-bi];rfl
  have hk:=Adr (K:=some true) (f:=fun x=>some x) (c:=false) (p:=fun i=>okc (me s i)) (B:=fun v=>IF s v) s.length (by omega) (fun i hi=>by
   show IF s (i:Int)=_;unfold IF;have hb:(Eg s).length =s.length:=by unfold Eg;simp
   rw [if_pos (by simp only [bz,hb];omega),sZ hi,abT (by omega)];simp only [Option.bind_some];generalize me s i=c;by_cases hc:okc c=true
   ·rw [if_pos hc,if_neg];simp_all [okc,of_decide_eq_true]
   ·rw [if_neg hc,if_pos];unfold okc at hc;grind) (by
   simp_all [IF,Eg])
  have hn:n_ (s.length<=140737488355328)=some ():=Dx (by omega);have hb1:(if((s.length:Int)==0) then true else decide (32<(s.length:Int)))=false:=by grind
  simp only [Option.bind_some,hb1,h0,hl,hc,hn,gd,jn,Vy,hk];unfold SA;grind
 ·have hb1:(if((s.length:Int)==0) then true else decide (32<(s.length:Int)))=true:=by grind
  have hw:SA s=false:=by grind [SA]
  simp only [Option.bind_some,hb1,gd,hw];simp
theorem lG {β:Type} {p:Nat->Bool} {f:Nat->β} {B:Int->Option (Int⊕(Unit⊕β))} (n:Nat) (hn:n<9223372036854775807)
 (hB: ∀ i:Nat,i<n->B (i:Int)=some (if p i=true then .inr (.inr (f i))else .inl ((i:Int)+1))) (hE:B (n:Int)=some (.inr (.inl ()))):
 iter B FU 0=some (match (List.range n).find? p with | some i=> .inr (f i) | none=> .inl ()):=by
 have key: ∀ (k i N:Nat),i+k=n->k<N->iter B N (i:Int)=some (match (List.range' i k).find? p with | some i=> .inr (f i) | none=> .inl ()):=by
  intro k;induction k with
  | zero=>
    intro i N hi hN;obtain⟨N,rfl⟩: ∃ M,N=M+1:=⟨N - 1,by omega⟩;obtain rfl:i=n:=by omega
    rw [BD hE];rfl
  | succ k ih=>
    intro i N hi hN;obtain⟨N,rfl⟩: ∃ M,N=M+1:=⟨N - 1,by omega⟩;have h:=hB i (by omega);rw [List.range'_succ,List.find?_cons];cases hp:p i
    ·rw [hp,if_neg (by simp)]at h;grind [Cc]
    ·rw [hp,if_pos rfl]at h;rw [BD h]
 have:=key n 0 FU (by omega) (by unfold FU;omega);grind [List.range_eq_range']
def lH (l:List (List UInt8)) (s:List UInt8):Bool:=(List.range l.length).any fun i=>l.getD i default==s
def lI:List (List UInt8):=[T3,QJ]
def lJ:List (List UInt8):=[Jp,Lf,M9,Pm,Pn,RY]
theorem wA {i:Nat} (h:i<6):(Ac ((1:Int)*2 ^ (min ((i:Int)).toNat (IntKind.i64).bits))==0)=false:=by
 have:i=0\/i=1\/i=2\/i=3\/i=4\/i=5:=by omega
 rcases this with rfl | rfl | rfl | rfl | rfl | rfl<;>decide
theorem P2 {n:Nat} {p:Nat->Bool} {i:Nat} (h:(List.range n).find? p=some i):(List.range n).any p=true/\i<n:=
 (by grind)
theorem zQ (s:List UInt8): ∃ w,CR s 6=some w/\(w==0)= !lH lJ s:=by
 unfold CR jn;rw [lG (p:=fun i=>lJ.getD i default==s) (f:=fun i=>Ac ((1:Int)*2 ^ (min ((i:Int)).toNat (IntKind.i64).bits))) (B:=fun v=>Ck s 6 v) 6 (by omega) (fun i hi=>by show Ck s 6 (i:Int)=_;unfold Ck;rw [if_pos (by simp only [bz];omega),show (⟨Jp,Lf,M9,Pm,Pn,RY⟩:A6 (List UInt8)).l =lJ from rfl,VG (l:=lJ) hi,abT (by omega)];grind [Dx]) (by rfl)]
 cases h:(List.range 6).find? (fun i=>lJ.getD i default==s)with
 | none=>exact⟨0,rfl,by grind [lH,lJ]⟩
 | some i=>exact⟨_,rfl,by rw [wA (P2 h).2,show lH lJ s=_ from(P2 h).1];rfl⟩
theorem zS (s:List UInt8): ∃ w,CG s 2=some w/\(w==0)= !lH lI s:=by
 unfold CG jn;rw [lG (p:=fun i=>lI.getD i default==s) (f:=fun i=>Ac ((1:Int)*2 ^ (min ((i:Int)).toNat (IntKind.i64).bits))) (B:=fun v=>Cf s 2 v) 2 (by omega) (fun i hi=>by show Cf s 2 (i:Int)=_;unfold Cf;rw [if_pos (by simp only [bz];omega),show (⟨T3,QJ⟩:A2 (List UInt8)).l =lI from rfl,VG (l:=lI) hi,abT (by omega)];grind [Dx]) (by rfl)]
 cases h:(List.range 2).find? (fun i=>lI.getD i default==s)with
 | none=>exact⟨0,rfl,by grind [lH,lI]⟩
 | some i=>exact⟨_,rfl,by grind [wA,lH,lI]⟩
def wB (s:List UInt8):Bool:=SA s&&(!lH lI s&& !lH lJ s)
theorem dV (s:List UInt8):HN s=some (wB s):=by obtain⟨w1,h1,e1⟩:=zS s;obtain⟨w2,h2,e2⟩:=zQ s;grind [HN,wB,hZ,gd]
end Go.PL
