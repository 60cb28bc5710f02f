/- Plain laws of states: words, subtypes, filters. -/
import Derived.Test.YteginlijmbcopaaGreatDoorTvtoPlPx
import Derived.Lib.IndexMore
import Derived.Test.YteginlijmbcopaaGreatDoorPlBdX
open List (mem_range all_eq_true)
namespace Go.PL
open Go
set_option maxRecDepth 100000
set_option linter.all false
set_option maxHeartbeats 1000000
theorem OB {α:Type} [Inhabited α] {l:List α} {i:Nat} (h:i<l.length):idx l (i:Int)=some (l.getD i default):=by rw [BU h,uy h]
theorem Tk {i:Nat} (h:i<9223372036854775807):Aa ((i:Int)+1)=(i:Int)+1:=by grind [A7]
theorem Aah {β γ:Type} {p:Nat->Bool} {c:β} {B:Int->Option (Int⊕(Unit⊕β))} {K:Option γ} {f:β->Option γ} (n:Nat) (hn:n<9223372036854775807)
 (hB: ∀ i:Nat,i<n->B (i:Int)=some (if p i=true then .inl ((i:Int)+1)else .inr (.inr c))) (hE:B (n:Int)=some (.inr (.inl ()))):
 (iter B FU 0).bind (Sum.elim (fun _=>K) f)=if(List.range n).all p=true then K else f c:=by
 have key: ∀ (k i N:Nat),i+k=n->k<N->(iter B N (i:Int)).bind (Sum.elim (fun _=>K) f)=if(List.range' i k).all p=true then K else f c:=by
  intro k;induction k with
  | zero=>
    intro i N hi hN;obtain⟨N,rfl⟩: ∃ M,N=M+1:=⟨N - 1,by omega⟩;obtain rfl:i=n:=by omega
    rw [Cu hE];rfl
  | succ k ih=>
    intro i N hi hN;obtain⟨N,rfl⟩: ∃ M,N=M+1:=⟨N - 1,by omega⟩;have h:=hB i (by omega);have:=ih (i+1) N (by omega) (by omega);rw [List.range'_succ,List.all_cons];cases hp:p i
    ·simp_all [Cu]
    ·rw [CM (by rw [h,hp];rfl),Bool.true_and];exact this
 have:=key n 0 FU (by omega) (by unfold FU;omega);simp_all
theorem pB:((List.range 64).all fun a=>(List.range 64).all fun b=>E5 (a:Int) (b:Int) 63==some (Fn .i64 a b==0))=true:=by kernel_rfl
theorem pC:((List.range 32).all fun a=>(List.range 32).all fun b=>E5 (a:Int) (b:Int) 31==some (Fn .i64 a b==0))=true:=by kernel_rfl
theorem uH (a b:Int):E5 a b 63=some (decide (0<=a/\a<=63/\0<=b/\b<=63)&&(Fn .i64 a b==0)):=by
 by_cases h:0<=a/\a<=63/\0<=b/\b<=63
 ·have t:=pB;rw [all_eq_true]at t;have t1:=t a.toNat (mem_range.2 (by omega));rw [all_eq_true]at t1;have t2:=t1 b.toNat (mem_range.2 (by omega));grind
 ·have:(if(if(if decide (a<0)=true then true else decide (63<a))=true then true else decide (b<0)) then true else decide (63<b))=true:=by grind
  simp_all [E5,decide_eq_false]
theorem uI (a b:Int):E5 a b 31=some (decide (0<=a/\a<=31/\0<=b/\b<=31)&&(Fn .i64 a b==0)):=by
 by_cases h:0<=a/\a<=31/\0<=b/\b<=31
 ·have t:=pC;rw [all_eq_true]at t;have t1:=t a.toNat (mem_range.2 (by omega));rw [all_eq_true]at t1;have t2:=t1 b.toNat (mem_range.2 (by omega));grind
 ·have:(if(if(if decide (a<0)=true then true else decide (31<a))=true then true else decide (b<0)) then true else decide (31<b))=true:=by grind
  simp_all [E5,decide_eq_false]
def iK (s:List UInt8) (i:Nat):Int:=(s.getD i 0).toNat
def okc (c:Int):Bool:=decide ((97<=c/\c<=122)\/(48<=c/\c<=57)\/c=45)
def dbl (s:List UInt8) (i:Nat):Bool:=decide (0<i/\iK s i=45/\iK s (i - 1)=45)
def OC (s:List UInt8):Bool:=decide (1<=s.length/\s.length<=32/\(97<=iK s 0/\iK s 0<=122)/\iK s (s.length - 1) ≠ 45)&&(List.range s.length).all fun i=>okc (iK s i)&& !dbl s i
theorem Wo {s:List UInt8} {i:Nat} (h:i<s.length):IS s (i:Int)=some (iK s i):=by unfold IS;rw [if_pos (by omega)];rfl
theorem pE (s:List UInt8) (i:Nat):Lib.occAt s [45,45] i=true↔i+1<s.length/\iK s i=45/\iK s (i+1)=45:=by
 unfold Lib.occAt iK;have h1:s.getD i 0=(s.drop i).getD 0 0:=by grind
 have h2:s.getD (i+1) 0=(s.drop i).getD 1 0:=by grind
 have h3:(s.drop i).length =s.length - i:=List.length_drop;rw [h1,h2];have e: ∀ c:UInt8,((c.toNat:Int)=45)↔c=45:=fun c=>by
  constructor
  ·intro h;apply UInt8.toNat_inj.1;grind
  simp_all
 rw [e,e];generalize s.drop i=l at *
 match l,h3 with
 | [],h3=>grind
 | [a],h3=>grind
 | a::b::t,h3=>
   grind
theorem eK (s:List UInt8):Lib.contains s [45,45]=(List.range s.length).any (dbl s):=by
 rw [Bool.eq_iff_iff];unfold Lib.contains;rw [decide_eq_true_iff,List.any_eq_true];rcases Lib.index_spec s [45,45]with ⟨h1,h2⟩ | ⟨i,h1,h2,h3,_⟩
 ·rw [h1];refine⟨fun h=>by omega,?_⟩;rintro⟨j,hj,hd⟩;have hj:=mem_range.1 hj;unfold dbl at hd;have hd:=of_decide_eq_true hd;have:=(pE s (j - 1)).2 ⟨by omega,hd.2.2,by rw [show j - 1+1=j by omega];exact hd.2.1⟩;grind
 ·rw [h1];refine⟨fun _=>?_,fun _=>by omega⟩;have:=(pE s i).1 h3;exact⟨i+1,(by grind),decide_eq_true ⟨by omega,this.2.2,this.2.1⟩⟩
theorem xc {s:List UInt8} {i:Nat} (h:i<s.length):idx (D6 s) (i:Int)=some (iK s i):=by grind [D6,OB,iK]
theorem ly (s:List UInt8):Qo s=some (OC s):=by
 unfold Qo;by_cases h:1<=s.length/\s.length<=32
 ·have h0:IS s 0=some (iK s 0):=Wo (i:=0) (by omega);have hl:IS s (Aa ((s.length:Int) - 1))=some (iK s (s.length - 1)):=by grind [A7,Wo]
  have hc:JG s ia=some ((List.range s.length).any (dbl s)):=by unfold JG;rw [if_pos (by omega), <-eK];rfl
  have hk:=Aah (K:=some true) (f:=fun x=>some x) (c:=false) (p:=fun i=>okc (iK s i)) (B:=fun v=>Iy s v) s.length (by omega) (fun i hi=>by
   show Iy s (i:Int)=_;unfold Iy;have hb:(D6 s).length =s.length:=by unfold D6;simp
   rw [if_pos (by simp only [bz,hb];omega),xc hi,Tk (by omega)];simp only [Option.bind_some];generalize iK s i=c;by_cases hc:okc c=true
   ·rw [if_pos hc,if_neg];simp_all [okc,of_decide_eq_true]
   ·rw [if_neg hc,if_pos];unfold okc at hc;grind) (by
   simp_all [Iy,D6])
  have hn:k_ (s.length<=140737488355328)=some ():=EY (by omega);have hb1:(if((s.length:Int)==0) then true else decide (32<(s.length:Int)))=false:=by grind
  simp only [Option.bind_some,hb1,h0,hl,hc,hn,gd,jn,Xs,hk];unfold OC;grind
 ·have hb1:(if((s.length:Int)==0) then true else decide (32<(s.length:Int)))=true:=by grind
  have hw:OC s=false:=by grind [OC]
  simp only [Option.bind_some,hb1,gd,hw];simp
theorem Aef (c:Int):T0 c=some (decide (97<=c/\c<=122)):=by unfold T0;grind
theorem pG (s:List UInt8):V2 s=some (OC s):=by
 unfold V2;by_cases h:1<=s.length/\s.length<=32
 ·have h0:IS s 0=some (iK s 0):=Wo (i:=0) (by omega);have hl:IS s (Aa ((s.length:Int) - 1))=some (iK s (s.length - 1)):=by grind [A7,Wo]
  have hk:=Aah (K:=some true) (f:=fun x=>some x) (c:=false) (p:=fun i=>okc (iK s i)&& !dbl s i) (B:=fun v=>KM s v) s.length (by omega) (fun i hi=>by
   show KM s (i:Int)=_;unfold KM;have hp:0<i->IS s (Aa ((i:Int) - 1))=some (iK s (i - 1)):=(by grind [A7,Wo]);rw [if_pos (by simp only [bz];omega),Wo hi,Tk (by omega)];simp only [Option.bind_some,Aef,gd];grind [dbl,okc]) (by
   simp_all [KM])
  have hb1:(if decide ((s.length:Int)<1) then true else decide (32<(s.length:Int)))=false:=by grind
  simp only [Option.bind_some,hb1,h0,hl,gd,Aef,jn,iF,hk];unfold OC;grind
 ·have hb1:(if decide ((s.length:Int)<1) then true else decide (32<(s.length:Int)))=true:=by grind
  grind [OC,gd]
theorem XJ {β:Type} {p:Nat->Bool} {f:Nat->β} {B:Int->Option (Int⊕(Unit⊕β))} (n:Nat) (hn:n<9223372036854775807)
 (hB: ∀ i:Nat,i<n->B (i:Int)=some (if p i=true then .inr (.inr (f i))else .inl ((i:Int)+1))) (hE:B (n:Int)=some (.inr (.inl ()))):
 iter B FU 0=some (match (List.range n).find? p with | some i=> .inr (f i) | none=> .inl ()):=by
 have key: ∀ (k i N:Nat),i+k=n->k<N->iter B N (i:Int)=some (match (List.range' i k).find? p with | some i=> .inr (f i) | none=> .inl ()):=by
  intro k;induction k with
  | zero=>
    intro i N hi hN;obtain⟨N,rfl⟩: ∃ M,N=M+1:=⟨N - 1,by omega⟩;obtain rfl:i=n:=by omega
    rw [Cu hE];rfl
  | succ k ih=>
    intro i N hi hN;obtain⟨N,rfl⟩: ∃ M,N=M+1:=⟨N - 1,by omega⟩;have h:=hB i (by omega);rw [List.range'_succ,List.find?_cons];cases hp:p i
    ·rw [hp,if_neg (by simp)]at h;grind [CM]
    ·rw [hp,if_pos rfl]at h;rw [Cu h]
 have:=key n 0 FU (by omega) (by unfold FU;omega);grind [List.range_eq_range']
def cT (l:List (List UInt8)) (s:List UInt8):Bool:=(List.range l.length).any fun i=>l.getD i default==s
def eM:List (List UInt8):=[Qi,No]
def eN:List (List UInt8):=[GH,Ix,KB,Mt,Mu,Ph]
theorem Aai {i:Nat} (h:i<6):(Aa ((1:Int)*2 ^ (min ((i:Int)).toNat (IntKind.i64).bits))==0)=false:=by
 have:i=0\/i=1\/i=2\/i=3\/i=4\/i=5:=by omega
 rcases this with rfl | rfl | rfl | rfl | rfl | rfl<;>decide
theorem Q4 {n:Nat} {p:Nat->Bool} {i:Nat} (h:(List.range n).find? p=some i):(List.range n).any p=true/\i<n:=
 (by grind)
theorem AcZ (s:List UInt8): ∃ w,CN s 6=some w/\(w==0)= !cT eN s:=by
 unfold CN jn;rw [XJ (p:=fun i=>eN.getD i default==s) (f:=fun i=>Aa ((1:Int)*2 ^ (min ((i:Int)).toNat (IntKind.i64).bits))) (B:=fun v=>Cc s 6 v) 6 (by omega) (fun i hi=>by show Cc s 6 (i:Int)=_;unfold Cc;rw [if_pos (by simp only [bz];omega),show (⟨GH,Ix,KB,Mt,Mu,Ph⟩:A6 (List UInt8)).l =eN from rfl,OB (l:=eN) hi,Tk (by omega)];grind [EY]) (by rfl)]
 cases h:(List.range 6).find? (fun i=>eN.getD i default==s)with
 | none=>exact⟨0,rfl,by grind [cT,eN]⟩
 | some i=>exact⟨_,rfl,by rw [Aai (Q4 h).2,show cT eN s=_ from(Q4 h).1];rfl⟩
theorem Ac0 (s:List UInt8): ∃ w,Cy s 2=some w/\(w==0)= !cT eM s:=by
 unfold Cy jn;rw [XJ (p:=fun i=>eM.getD i default==s) (f:=fun i=>Aa ((1:Int)*2 ^ (min ((i:Int)).toNat (IntKind.i64).bits))) (B:=fun v=>B8 s 2 v) 2 (by omega) (fun i hi=>by show B8 s 2 (i:Int)=_;unfold B8;rw [if_pos (by simp only [bz];omega),show (⟨Qi,No⟩:A2 (List UInt8)).l =eM from rfl,OB (l:=eM) hi,Tk (by omega)];grind [EY]) (by rfl)]
 cases h:(List.range 2).find? (fun i=>eM.getD i default==s)with
 | none=>exact⟨0,rfl,by grind [cT,eM]⟩
 | some i=>exact⟨_,rfl,by grind [Aai,cT,eM]⟩
theorem uJ (l:List (List UInt8)) (hl:l.length<9223372036854775807) (s:List UInt8): ∃ w,MG l s=some w/\decide (w<0)= !cT l s:=by
 unfold MG jn;rw [XJ (p:=fun i=>l.getD i default==s) (f:=fun i=>(i:Int)) (B:=fun v=>GW l s v) l.length hl (fun i hi=>by
  show GW l s (i:Int)=_;unfold GW;rw [if_pos (by simp only [bz];omega),OB hi,Tk (by omega)];grind) (by
  simp_all [GW])]
 cases h:(List.range l.length).find? (fun i=>l.getD i default==s)with
 | none=>exact⟨-1,rfl,by grind [cT]⟩
 | some i=>exact⟨(i:Int),rfl,by grind [cT]⟩
def pH (s:List UInt8):Bool:=OC s&&(!cT eM s&& !cT eN s)
theorem XK (s:List UInt8):HJ s=some (pH s):=by obtain⟨w1,h1,e1⟩:=Ac0 s;obtain⟨w2,h2,e2⟩:=AcZ s;grind [HJ,pH,ly,gd]
theorem cU (s:List UInt8):JL s=some (pH s):=by obtain⟨w1,h1,e1⟩:=uJ eM (by decide) s;obtain⟨w2,h2,e2⟩:=uJ eN (by decide) s;unfold JL pH;simp only [Option.bind_some,pG,show KH=some eM from rfl,show H7=some eN from rfl,gd];grind
end Go.PL
