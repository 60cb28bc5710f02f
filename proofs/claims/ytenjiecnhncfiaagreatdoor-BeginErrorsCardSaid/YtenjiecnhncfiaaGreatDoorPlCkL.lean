/- Plain laws of states: words, subtypes, filters. -/
import Derived.Test.YtenjiecnhncfiaaGreatDoorPlPltoPlPx
import Derived.Lib.IndexMore
import Derived.Test.YtenjiecnhncfiaaGreatDoorPlBeX
open List (mem_range all_eq_true)
namespace Go.PL
open Go
set_option maxRecDepth 100000
set_option linter.all false
set_option maxHeartbeats 1000000
theorem Ol {α:Type} [Inhabited α] {l:List α} {i:Nat} (h:i<l.length):idx l (i:Int)=some (l.getD i default):=by rw [BY h,YM h]
theorem aal {i:Nat} (h:i<9223372036854775807):Ad ((i:Int)+1)=(i:Int)+1:=by rw [AU (by omega) (by omega)]
theorem yp {β γ:Type} {p:Nat->Bool} {c:β} {B:Int->Option (Int⊕(Unit⊕β))} {K:Option γ} {f:β->Option γ} (n:Nat) (hn:n<9223372036854775807)
 (hB: ∀ i:Nat,i<n->B (i:Int)=some (if p i=true then .inl ((i:Int)+1)else .inr (.inr c))) (hE:B (n:Int)=some (.inr (.inl ()))):
 (iter B FU 0).bind (Sum.elim (fun _=>K) f)=if(List.range n).all p=true then K else f c:=by
 have key: ∀ (k i N:Nat),i+k=n->k<N->(iter B N (i:Int)).bind (Sum.elim (fun _=>K) f)=if(List.range' i k).all p=true then K else f c:=by
  intro k;induction k with
  | zero=>
    intro i N hi hN;obtain⟨N,rfl⟩: ∃ M,N=M+1:=⟨N - 1,by omega⟩;obtain rfl:i=n:=by omega
    rw [Cr hE];rfl
  | succ k ih=>
    intro i N hi hN;obtain⟨N,rfl⟩: ∃ M,N=M+1:=⟨N - 1,by omega⟩;have h:=hB i (by omega);have:=ih (i+1) N (by omega) (by omega);rw [List.range'_succ,List.all_cons];cases hp:p i
    ·rw [Cr (by rw [h,hp];rfl)];rfl
    ·rw [CH (by rw [h,hp];rfl),Bool.true_and];exact this
 have:=key n 0 FU (by omega) (by unfold FU;omega);rw [List.range_eq_range'];simpa using this
theorem nR:((List.range 64).all fun a=>(List.range 64).all fun b=>EQ (a:Int) (b:Int) 63==some (Fk .i64 a b==0))=true:=by kernel_rfl
theorem nS:((List.range 32).all fun a=>(List.range 32).all fun b=>EQ (a:Int) (b:Int) 31==some (Fk .i64 a b==0))=true:=by kernel_rfl
theorem sS (a b:Int):EQ a b 63=some (decide (0<=a/\a<=63/\0<=b/\b<=63)&&(Fk .i64 a b==0)):=by
 by_cases h:0<=a/\a<=63/\0<=b/\b<=63
 ·have t:=nR;rw [all_eq_true]at t;have t1:=t a.toNat (mem_range.2 (by omega));rw [all_eq_true]at t1;have t2:=t1 b.toNat (mem_range.2 (by omega));rw [Int.toNat_of_nonneg h.1,Int.toNat_of_nonneg h.2.2.1]at t2;rw [beq_iff_eq.1 t2,decide_eq_true h,Bool.true_and]
 ·have:(if(if(if decide (a<0)=true then true else decide (63<a))=true then true else decide (b<0)) then true else decide (63<b))=true:=by simp only [bz];omega
  unfold EQ;simp only [Option.bind_some];rw [if_pos this,decide_eq_false h,Bool.false_and]
theorem sT (a b:Int):EQ a b 31=some (decide (0<=a/\a<=31/\0<=b/\b<=31)&&(Fk .i64 a b==0)):=by
 by_cases h:0<=a/\a<=31/\0<=b/\b<=31
 ·have t:=nS;rw [all_eq_true]at t;have t1:=t a.toNat (mem_range.2 (by omega));rw [all_eq_true]at t1;have t2:=t1 b.toNat (mem_range.2 (by omega));rw [Int.toNat_of_nonneg h.1,Int.toNat_of_nonneg h.2.2.1]at t2;rw [beq_iff_eq.1 t2,decide_eq_true h,Bool.true_and]
 ·have:(if(if(if decide (a<0)=true then true else decide (31<a))=true then true else decide (b<0)) then true else decide (31<b))=true:=by simp only [bz];omega
  unfold EQ;simp only [Option.bind_some];rw [if_pos this,decide_eq_false h,Bool.false_and]
def Uy (s:List UInt8) (i:Nat):Int:=(s.getD i 0).toNat
def okc (c:Int):Bool:=decide ((97<=c/\c<=122)\/(48<=c/\c<=57)\/c=45)
def dbl (s:List UInt8) (i:Nat):Bool:=decide (0<i/\Uy s i=45/\Uy s (i - 1)=45)
def IE (s:List UInt8):Bool:=decide (1<=s.length/\s.length<=32/\(97<=Uy s 0/\Uy s 0<=122)/\Uy s (s.length - 1) ≠ 45)&&(List.range s.length).all fun i=>okc (Uy s i)&& !dbl s i
theorem V7 {s:List UInt8} {i:Nat} (h:i<s.length):IH s (i:Int)=some (Uy s i):=by unfold IH;rw [if_pos (by omega)];rfl
theorem nT (s:List UInt8) (i:Nat):Lib.occAt s [45,45] i=true↔i+1<s.length/\Uy s i=45/\Uy s (i+1)=45:=by
 unfold Lib.occAt Uy;have h1:s.getD i 0=(s.drop i).getD 0 0:=by simp [List.getD_eq_getElem?_getD,List.getElem?_drop]
 have h2:s.getD (i+1) 0=(s.drop i).getD 1 0:=by simp [List.getD_eq_getElem?_getD,List.getElem?_drop]
 have h3:(s.drop i).length =s.length - i:=List.length_drop;rw [h1,h2];have e: ∀ c:UInt8,((c.toNat:Int)=45)↔c=45:=fun c=>by
  constructor
  ·intro h;apply UInt8.toNat_inj.1;have:(45:UInt8).toNat =45:=rfl;omega
  ·rintro rfl;rfl
 rw [e,e];generalize s.drop i=l at *
 match l,h3 with
 | [],h3=>simp at h3;simp [List.isPrefixOf]
 | [a],h3=>simp at h3;simp [List.isPrefixOf]
 | a::b::t,h3=>
   simp at h3;simp [List.isPrefixOf];constructor
   ·rintro⟨rfl,rfl⟩;exact⟨by omega,rfl,rfl⟩
   ·rintro⟨_,rfl,rfl⟩;exact⟨rfl,rfl⟩
theorem eM (s:List UInt8):Lib.contains s [45,45]=(List.range s.length).any (dbl s):=by
 rw [Bool.eq_iff_iff];unfold Lib.contains;rw [decide_eq_true_iff,List.any_eq_true];rcases Lib.index_spec s [45,45]with ⟨h1,h2⟩ | ⟨i,h1,h2,h3,_⟩
 ·rw [h1];refine⟨fun h=>by omega,?_⟩;rintro⟨j,hj,hd⟩;have hj:=mem_range.1 hj;unfold dbl at hd;have hd:=of_decide_eq_true hd;have:=(nT s (j - 1)).2 ⟨by omega,hd.2.2,by rw [show j - 1+1=j by omega];exact hd.2.1⟩;rw [h2 (j - 1) (by omega)]at this;cases this
 ·rw [h1];refine⟨fun _=>?_,fun _=>by omega⟩;have:=(nT s i).1 h3;exact⟨i+1,mem_range.2 this.1,decide_eq_true ⟨by omega,this.2.2,this.2.1⟩⟩
theorem u7 {s:List UInt8} {i:Nat} (h:i<s.length):idx (Di s) (i:Int)=some (Uy s i):=by
 have h':i<(Di s).length :=by unfold Di;simpa using h
 rw [Ol h'];unfold Uy Di;rw [List.getD_eq_getElem?_getD,List.getD_eq_getElem?_getD,List.getElem?_map,List.getElem?_eq_getElem h];rfl
theorem yq (l:List Nat) (p q:Nat->Bool):(l.all p&& !l.any q)=l.all fun i=>p i&& !q i:=by
 induction l with
 | nil=>rfl
 | cons a l ih=>simp only [List.all_cons,List.any_cons, <-ih];cases p a<;>cases q a<;>cases l.all p<;>cases l.any q<;>rfl
theorem kA (s:List UInt8):Qa s=some (IE s):=by
 unfold Qa;by_cases h:1<=s.length/\s.length<=32
 ·have h0:IH s 0=some (Uy s 0):=V7 (i:=0) (by omega);have hl:IH s (Ad ((s.length:Int) - 1))=some (Uy s (s.length - 1)):=by rw [AU (by omega) (by omega),show ((s.length:Int) - 1)=((s.length - 1:Nat):Int) by omega];exact V7 (by omega)
  have hc:Jw s gC=some ((List.range s.length).any (dbl s)):=by unfold Jw;rw [if_pos (by omega), <-eM];rfl
  have hk:=yp (K:=some true) (f:=fun x=>some x) (c:=false) (p:=fun i=>okc (Uy s i)) (B:=fun v=>Gb s v) s.length (by omega) (fun i hi=>by
   show Gb s (i:Int)=_;unfold Gb;have hb:(Di s).length =s.length:=by unfold Di;simp
   rw [if_pos (by simp only [bz,hb];omega),u7 hi,aal (by omega)];simp only [Option.bind_some];generalize Uy s i=c;by_cases hc:okc c=true
   ·rw [if_pos hc,if_neg];unfold okc at hc;have:=of_decide_eq_true hc;simp only [bz];omega
   ·rw [if_neg hc,if_pos];unfold okc at hc;have:=of_decide_eq_false (Bool.eq_false_iff.2 hc);simp only [bz];omega) (by
   show Gb s _=_;unfold Gb;have hb:(Di s).length =s.length:=by unfold Di;simp
   rw [if_neg (by simp only [bz,hb];omega)])
  have hn:n_ (s.length<=140737488355328)=some ():=Hq (by omega);have hb1:(if((s.length:Int)==0) then true else decide (32<(s.length:Int)))=false:=by simp only [bz];omega
  simp only [Option.bind_some,hb1,h0,hl,hc,hn,gd,jn,W9,hk];unfold IE;rw [<-yq];generalize (List.range s.length).any (dbl s)=x;generalize ((List.range s.length).all fun i=>okc (Uy s i))=y;generalize Uy s 0=c0;generalize Uy s (s.length - 1)=c1;grind
 ·have hb1:(if((s.length:Int)==0) then true else decide (32<(s.length:Int)))=true:=by simp only [bz];omega
  have hw:IE s=false:=by unfold IE;rw [decide_eq_false (fun q=>h ⟨q.1,q.2.1⟩)];rfl
  simp only [Option.bind_some,hb1,gd,hw];simp
theorem Acw (c:Int):TL c=some (decide (97<=c/\c<=122)):=by unfold TL;simp only [Option.bind_some];congr 1;rw [Bool.eq_iff_iff];simp
theorem nU (s:List UInt8):VO s=some (IE s):=by
 unfold VO;by_cases h:1<=s.length/\s.length<=32
 ·have h0:IH s 0=some (Uy s 0):=V7 (i:=0) (by omega);have hl:IH s (Ad ((s.length:Int) - 1))=some (Uy s (s.length - 1)):=by rw [AU (by omega) (by omega),show ((s.length:Int) - 1)=((s.length - 1:Nat):Int) by omega];exact V7 (by omega)
  have hk:=yp (K:=some true) (f:=fun x=>some x) (c:=false) (p:=fun i=>okc (Uy s i)&& !dbl s i) (B:=fun v=>Hz s v) s.length (by omega) (fun i hi=>by
   show Hz s (i:Int)=_;unfold Hz;have hp:0<i->IH s (Ad ((i:Int) - 1))=some (Uy s (i - 1)):=fun q=>by rw [AU (by omega) (by omega),show ((i:Int) - 1)=((i - 1:Nat):Int) by omega];exact V7 (by omega)
   rw [if_pos (by simp only [bz];omega),V7 hi,aal (by omega)];simp only [Option.bind_some,Acw,gd];unfold dbl okc;generalize Uy s i=c at *;by_cases hi0:0<i
   ·rw [hp hi0];generalize Uy s (i - 1)=d at *;grind
   ·grind) (by
   show Hz s _=_;unfold Hz;rw [if_neg (by simp only [bz];omega)])
  have hb1:(if decide ((s.length:Int)<1) then true else decide (32<(s.length:Int)))=false:=by simp only [bz];omega
  simp only [Option.bind_some,hb1,h0,hl,gd,Acw,jn,gV,hk];unfold IE;generalize ((List.range s.length).all fun i=>okc (Uy s i)&& !dbl s i)=y;generalize Uy s 0=c0;generalize Uy s (s.length - 1)=c1;grind
 ·have hb1:(if decide ((s.length:Int)<1) then true else decide (32<(s.length:Int)))=true:=by simp only [bz];omega
  have hw:IE s=false:=by unfold IE;rw [decide_eq_false (fun q=>h ⟨q.1,q.2.1⟩)];rfl
  simp only [Option.bind_some,hb1,gd,hw];simp
theorem Xq {β:Type} {p:Nat->Bool} {f:Nat->β} {B:Int->Option (Int⊕(Unit⊕β))} (n:Nat) (hn:n<9223372036854775807)
 (hB: ∀ i:Nat,i<n->B (i:Int)=some (if p i=true then .inr (.inr (f i))else .inl ((i:Int)+1))) (hE:B (n:Int)=some (.inr (.inl ()))):
 iter B FU 0=some (match (List.range n).find? p with | some i=> .inr (f i) | none=> .inl ()):=by
 have key: ∀ (k i N:Nat),i+k=n->k<N->iter B N (i:Int)=some (match (List.range' i k).find? p with | some i=> .inr (f i) | none=> .inl ()):=by
  intro k;induction k with
  | zero=>
    intro i N hi hN;obtain⟨N,rfl⟩: ∃ M,N=M+1:=⟨N - 1,by omega⟩;obtain rfl:i=n:=by omega
    rw [Cr hE];rfl
  | succ k ih=>
    intro i N hi hN;obtain⟨N,rfl⟩: ∃ M,N=M+1:=⟨N - 1,by omega⟩;have h:=hB i (by omega);rw [List.range'_succ,List.find?_cons];cases hp:p i
    ·rw [hp,if_neg (by simp)]at h;rw [CH h];have:=ih (i+1) N (by omega) (by omega);simpa using this
    ·rw [hp,if_pos rfl]at h;rw [Cr h]
 have:=key n 0 FU (by omega) (by unfold FU;omega);rw [List.range_eq_range'];simpa using this
def cL (l:List (List UInt8)) (s:List UInt8):Bool:=(List.range l.length).any fun i=>l.getD i default==s
def cM:List (List UInt8):=[P4,Nf]
def cN:List (List UInt8):=[GF,Ir,Kt,Me,Mf,O5]
theorem yr {i:Nat} (h:i<6):(Ad ((1:Int)*2 ^ (min ((i:Int)).toNat (IntKind.i64).bits))==0)=false:=by
 have:i=0\/i=1\/i=2\/i=3\/i=4\/i=5:=by omega
 rcases this with rfl | rfl | rfl | rfl | rfl | rfl<;>decide
theorem H6 {n:Nat} {p:Nat->Bool} (h:(List.range n).find? p=none):(List.range n).any p=false:=by rw [List.find?_eq_none]at h;rw [List.any_eq_false];exact h
theorem D2 {n:Nat} {p:Nat->Bool} {i:Nat} (h:(List.range n).find? p=some i):(List.range n).any p=true/\i<n:=
 ⟨List.any_eq_true.2 ⟨i,List.mem_of_find?_eq_some h,List.find?_some h⟩,mem_range.1 (List.mem_of_find?_eq_some h)⟩
theorem Abg (s:List UInt8): ∃ w,CI s 6=some w/\(w==0)= !cL cN s:=by
 unfold CI jn;rw [Xq (p:=fun i=>cN.getD i default==s) (f:=fun i=>Ad ((1:Int)*2 ^ (min ((i:Int)).toNat (IntKind.i64).bits))) (B:=fun v=>Cd s 6 v) 6 (by omega) (fun i hi=>by show Cd s 6 (i:Int)=_;unfold Cd;rw [if_pos (by simp only [bz];omega),show (⟨GF,Ir,Kt,Me,Mf,O5⟩:A6 (List UInt8)).l =cN from rfl,Ol (l:=cN) hi,aal (by omega)];simp only [Option.bind_some,Hq (show (0:Int)<=(i:Int) by omega)];cases h:(cN.getD i default==s)<;>simp only [bne,h]<;>rfl) (by rfl)]
 cases h:(List.range 6).find? (fun i=>cN.getD i default==s)with
 | none=>exact⟨0,rfl,by rw [show cL cN s=_ from H6 h];rfl⟩
 | some i=>exact⟨_,rfl,by rw [yr (D2 h).2,show cL cN s=_ from(D2 h).1];rfl⟩
theorem Abh (s:List UInt8): ∃ w,Cw s 2=some w/\(w==0)= !cL cM s:=by
 unfold Cw jn;rw [Xq (p:=fun i=>cM.getD i default==s) (f:=fun i=>Ad ((1:Int)*2 ^ (min ((i:Int)).toNat (IntKind.i64).bits))) (B:=fun v=>B6 s 2 v) 2 (by omega) (fun i hi=>by show B6 s 2 (i:Int)=_;unfold B6;rw [if_pos (by simp only [bz];omega),show (⟨P4,Nf⟩:A2 (List UInt8)).l =cM from rfl,Ol (l:=cM) hi,aal (by omega)];simp only [Option.bind_some,Hq (show (0:Int)<=(i:Int) by omega)];cases h:(cM.getD i default==s)<;>simp only [bne,h]<;>rfl) (by rfl)]
 cases h:(List.range 2).find? (fun i=>cM.getD i default==s)with
 | none=>exact⟨0,rfl,by rw [show cL cM s=_ from H6 h];rfl⟩
 | some i=>exact⟨_,rfl,by rw [yr (by have:=(D2 h).2;omega),show cL cM s=_ from(D2 h).1];rfl⟩
theorem sU (l:List (List UInt8)) (hl:l.length<9223372036854775807) (s:List UInt8): ∃ w,Mr l s=some w/\decide (w<0)= !cL l s:=by
 unfold Mr jn;rw [Xq (p:=fun i=>l.getD i default==s) (f:=fun i=>(i:Int)) (B:=fun v=>EP l s v) l.length hl (fun i hi=>by
  show EP l s (i:Int)=_;unfold EP;rw [if_pos (by simp only [bz];omega),Ol hi,aal (by omega)];simp only [Option.bind_some];cases h:(l.getD i default==s)<;>simp) (by
  show EP l s _=_;unfold EP;rw [if_neg (by simp only [bz];omega)])]
 cases h:(List.range l.length).find? (fun i=>l.getD i default==s)with
 | none=>exact⟨-1,rfl,by rw [show cL l s=_ from H6 h];rfl⟩
 | some i=>exact⟨(i:Int),rfl,by rw [show cL l s=_ from(D2 h).1];exact decide_eq_false (by omega)⟩
def V8 (s:List UInt8):Bool:=IE s&&(!cL cM s&& !cL cN s)
theorem Xr (s:List UInt8):Hx s=some (V8 s):=by obtain⟨w1,h1,e1⟩:=Abh s;obtain⟨w2,h2,e2⟩:=Abg s;unfold Hx V8;simp only [Option.bind_some,kA,h1,h2,gd];rw [<-e1, <-e2];generalize IE s=x;grind
theorem cO (s:List UInt8):JA s=some (V8 s):=by
 obtain⟨w1,h1,e1⟩:=sU cM (by decide) s;obtain⟨w2,h2,e2⟩:=sU cN (by decide) s;unfold JA V8;simp only [Option.bind_some,nU,show Kz=some cM from rfl,show HV=some cN from rfl,gd];rw [<-e1, <-e2];generalize IE s=x;cases x<;>simp [h1,h2]
 all_goals grind
end Go.PL
