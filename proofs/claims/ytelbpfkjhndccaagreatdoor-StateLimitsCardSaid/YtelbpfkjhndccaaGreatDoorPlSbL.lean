/- Plain laws of states: words, subtypes, filters. -/
import Derived.Test.YtelbpfkjhndccaaGreatDoorPlOtoPlPj
import Derived.Lib.IndexMore
import Derived.Test.YtelbpfkjhndccaaGreatDoorPlSbX
namespace Go.PL
open Go
set_option maxRecDepth 100000
set_option linter.all false
set_option maxHeartbeats 1000000
theorem WC {α:Type} [Inhabited α] {l:List α} {i:Nat} (h:i<l.length):idx l (i:Int)=some (l.getD i default):=by rw [B8 h,GJ h]
theorem wrapS' {i:Nat} (h:i<9223372036854775807):Ab ((i:Int)+1)=(i:Int)+1:=by rw [BC (by omega) (by omega)]
theorem hH {p:Nat→Bool} {B:Int→Option (Int⊕(Unit⊕Unit))} {K a:Option Bool} (n:Nat) (hn:n<9223372036854775807)
 (hB: ∀ i:Nat,i<n→B (i:Int)=some (if p i=true then .inl ((i:Int)+1)else .inr (.inr ()))) (hE:B (n:Int)=some (.inr (.inl ()))):
 (iter B FU 0).bind (Sum.elim (fun _=>K) (fun _=>a))=if(List.range n).all p=true then K else a:=by
 have key: ∀ (k i N:Nat),i+k=n→k<N→(iter B N (i:Int)).bind (Sum.elim (fun _=>K) (fun _=>a))=if(List.range' i k).all p=true then K else a:=by
  intro k
  induction k with
  | zero=>
    intro i N hi hN
    obtain⟨N,rfl⟩: ∃ M,N=M+1:=⟨N - 1,by omega⟩
    obtain rfl:i=n:=by omega
    rw [DU hE];rfl
  | succ k ih=>
    intro i N hi hN
    obtain⟨N,rfl⟩: ∃ M,N=M+1:=⟨N - 1,by omega⟩
    have h:=hB i (by omega)
    rw [List.range'_succ,List.all_cons]
    cases hp:p i
    ·rw [hp,if_neg (by simp)]at h
     rw [DU h];simp
    ·rw [hp,if_pos rfl]at h
     rw [Eh h,Bool.true_and]
     have:=ih (i+1) N (by omega) (by omega)
     rw [show ((i+1:Nat):Int)=(i:Int)+1 by omega]at this
     exact this
 have:=key n 0 FU (by omega) (by unfold FU;omega)
 rw [List.range_eq_range']
 simpa using this
theorem Zi:((List.range 64).all fun a=>(List.range 64).all fun b=>IE (a:Int) (b:Int) 63==some (Nc .i64 a b==0))=true:=by kernel_rfl
theorem Zj:((List.range 32).all fun a=>(List.range 32).all fun b=>IE (a:Int) (b:Int) 31==some (Nc .i64 a b==0))=true:=by kernel_rfl
theorem cd (a b:Int):IE a b 63=some (decide (0≤a∧a≤63∧0≤b∧b≤63)&&(Nc .i64 a b==0)):=by
 by_cases h:0≤a∧a≤63∧0≤b∧b≤63
 ·have t:=Zi
  rw [List.all_eq_true]at t
  have t1:=t a.toNat (List.mem_range.2 (by omega))
  rw [List.all_eq_true]at t1
  have t2:=t1 b.toNat (List.mem_range.2 (by omega))
  rw [Int.toNat_of_nonneg h.1,Int.toNat_of_nonneg h.2.2.1]at t2
  rw [beq_iff_eq.1 t2,decide_eq_true h,Bool.true_and]
 ·have:(if(if(if decide (a<0)=true then true else decide (63<a))=true then true else decide (b<0))=true then true else decide (63<b))=true:=by simp only [bz];omega
  unfold IE
  simp only [Option.bind_some]
  rw [if_pos this,decide_eq_false h,Bool.false_and]
theorem ce (a b:Int):IE a b 31=some (decide (0≤a∧a≤31∧0≤b∧b≤31)&&(Nc .i64 a b==0)):=by
 by_cases h:0≤a∧a≤31∧0≤b∧b≤31
 ·have t:=Zj
  rw [List.all_eq_true]at t
  have t1:=t a.toNat (List.mem_range.2 (by omega))
  rw [List.all_eq_true]at t1
  have t2:=t1 b.toNat (List.mem_range.2 (by omega))
  rw [Int.toNat_of_nonneg h.1,Int.toNat_of_nonneg h.2.2.1]at t2
  rw [beq_iff_eq.1 t2,decide_eq_true h,Bool.true_and]
 ·have:(if(if(if decide (a<0)=true then true else decide (31<a))=true then true else decide (b<0))=true then true else decide (31<b))=true:=by simp only [bz];omega
  unfold IE
  simp only [Option.bind_some]
  rw [if_pos this,decide_eq_false h,Bool.false_and]
def QB (s:List UInt8) (i:Nat):Int:=(s.getD i 0).toNat
def hP (c:Int):Bool:=decide ((97≤c∧c≤122)∨(48≤c∧c≤57)∨c=45)
def jA (s:List UInt8) (i:Nat):Bool:=decide (0<i∧QB s i=45∧QB s (i - 1)=45)
def K4 (s:List UInt8):Bool:=decide (1≤s.length∧s.length≤32∧(97≤QB s 0∧QB s 0≤122)∧QB s (s.length - 1) ≠ 45)&&(List.range s.length).all fun i=>hP (QB s i)&& !jA s i
theorem Rn {s:List UInt8} {i:Nat} (h:i<s.length):sidx s (i:Int)=some (QB s i):=by
 unfold sidx
 rw [if_pos (by omega)]
 rfl
theorem Zk (s:List UInt8) (i:Nat):Lib.occAt s [45,45] i=true↔i+1<s.length∧QB s i=45∧QB s (i+1)=45:=by
 unfold Lib.occAt QB
 have h1:s.getD i 0=(s.drop i).getD 0 0:=by simp [List.getD_eq_getElem?_getD,List.getElem?_drop]
 have h2:s.getD (i+1) 0=(s.drop i).getD 1 0:=by simp [List.getD_eq_getElem?_getD,List.getElem?_drop]
 have h3:(s.drop i).length =s.length - i:=List.length_drop
 rw [h1,h2]
 have e: ∀ c:UInt8,((c.toNat:Int)=45)↔c=45:=fun c=>by
  constructor
  ·intro h
   apply UInt8.toNat_inj.1
   have:(45:UInt8).toNat =45:=rfl
   omega
  ·rintro rfl;rfl
 rw [e,e]
 generalize s.drop i=l at *
 match l,h3 with
 | [],h3=>simp at h3;simp [List.isPrefixOf]
 | [a],h3=>simp at h3;simp [List.isPrefixOf]
 | a::b::t,h3=>
   simp at h3
   simp [List.isPrefixOf]
   constructor
   ·rintro⟨rfl,rfl⟩;exact⟨by omega,rfl,rfl⟩
   ·rintro⟨_,rfl,rfl⟩;exact⟨rfl,rfl⟩
theorem VI (s:List UInt8):Lib.contains s [45,45]=(List.range s.length).any (jA s):=by
 rw [Bool.eq_iff_iff]
 unfold Lib.contains
 rw [decide_eq_true_iff,List.any_eq_true]
 rcases Lib.index_spec s [45,45]with ⟨h1,h2⟩ | ⟨i,h1,h2,h3,_⟩
 ·rw [h1]
  refine⟨fun h=>by omega,?_⟩
  rintro⟨j,hj,hd⟩
  have hj:=List.mem_range.1 hj
  unfold jA at hd
  have hd:=of_decide_eq_true hd
  have:=(Zk s (j - 1)).2 ⟨by omega,hd.2.2,by rw [show j - 1+1=j by omega];exact hd.2.1⟩
  rw [h2 (j - 1) (by omega)]at this
  cases this
 ·rw [h1]
  refine⟨fun _=>?_,fun _=>by omega⟩
  have:=(Zk s i).1 h3
  exact⟨i+1,List.mem_range.2 this.1,decide_eq_true ⟨by omega,this.2.2,this.2.1⟩⟩
theorem dw {s:List UInt8} {i:Nat} (h:i<s.length):idx (Fh s) (i:Int)=some (QB s i):=by
 have h':i<(Fh s).length :=by unfold Fh;simpa using h
 rw [WC h']
 unfold QB Fh
 rw [List.getD_eq_getElem?_getD,List.getD_eq_getElem?_getD,List.getElem?_map,List.getElem?_eq_getElem h]
 rfl
theorem fq (l:List Nat) (p q:Nat→Bool):(l.all p&& !l.any q)=l.all fun i=>p i&& !q i:=by
 induction l with
 | nil=>rfl
 | cons a l ih=>simp only [List.all_cons,List.any_cons, ←ih];cases p a<;>cases q a<;>cases l.all p<;>cases l.any q<;>rfl
theorem ft (s:List UInt8):Oc s=some (K4 s):=by
 unfold Oc
 by_cases h:1≤s.length∧s.length≤32
 ·have h0:sidx s 0=some (QB s 0):=Rn (i:=0) (by omega)
  have hl:sidx s (Ab ((s.length:Int) - 1))=some (QB s (s.length - 1)):=by
   rw [BC (by omega) (by omega),show ((s.length:Int) - 1)=((s.length - 1:Nat):Int) by omega]
   exact Rn (by omega)
  have hc:LX s Wn=some ((List.range s.length).any (jA s)):=by
   unfold LX;rw [if_pos (by omega), ←VI];rfl
  have hk:=hH (K:=some true) (a:=some false) (p:=fun i=>hP (QB s i)) (B:=fun v=>FR s v) s.length (by omega) (fun i hi=>by
   show FR s (i:Int)=_
   unfold FR
   have hb:(Fh s).length =s.length:=by unfold Fh;simp
   rw [if_pos (by simp only [bz,hb];omega),dw hi,wrapS' (by omega)]
   simp only [Option.bind_some]
   generalize QB s i=c
   by_cases hc:hP c=true
   ·rw [if_pos hc,if_neg]
    unfold hP at hc
    have:=of_decide_eq_true hc
    simp only [bz];omega
   ·rw [if_neg hc,if_pos]
    unfold hP at hc
    have:=of_decide_eq_false (Bool.eq_false_iff.2 hc)
    simp only [bz];omega) (by
   show FR s _=_
   unfold FR
   have hb:(Fh s).length =s.length:=by unfold Fh;simp
   rw [if_neg (by simp only [bz,hb];omega)])
  have hn:need (s.length≤140737488355328)=some ():=Ks (by omega)
  have hb1:(if((s.length:Int)==0)=true then true else decide (32<(s.length:Int)))=false:=by simp only [bz];omega
  simp only [Option.bind_some,hb1,h0,hl,hc,hn,gd,JH,hk]
  unfold K4
  rw [←fq]
  generalize (List.range s.length).any (jA s)=x
  generalize ((List.range s.length).all fun i=>hP (QB s i))=y
  generalize QB s 0=c0
  generalize QB s (s.length - 1)=c1
  grind
 ·have hb1:(if((s.length:Int)==0)=true then true else decide (32<(s.length:Int)))=true:=by simp only [bz];omega
  have hw:K4 s=false:=by
   unfold K4;rw [decide_eq_false (fun q=>h ⟨q.1,q.2.1⟩)];rfl
  simp only [Option.bind_some,hb1,gd,hw]
  simp
theorem jB (c:Int):S9 c=some (decide (97≤c∧c≤122)):=by
 unfold S9
 simp only [Option.bind_some]
 congr 1
 rw [Bool.eq_iff_iff];simp
theorem jC (s:List UInt8):XC s=some (K4 s):=by
 unfold XC
 by_cases h:1≤s.length∧s.length≤32
 ·have h0:sidx s 0=some (QB s 0):=Rn (i:=0) (by omega)
  have hl:sidx s (Ab ((s.length:Int) - 1))=some (QB s (s.length - 1)):=by
   rw [BC (by omega) (by omega),show ((s.length:Int) - 1)=((s.length - 1:Nat):Int) by omega]
   exact Rn (by omega)
  have hk:=hH (K:=some true) (a:=some false) (p:=fun i=>hP (QB s i)&& !jA s i) (B:=fun v=>Jj s v) s.length (by omega) (fun i hi=>by
   show Jj s (i:Int)=_
   unfold Jj
   have hp:0<i→sidx s (Ab ((i:Int) - 1))=some (QB s (i - 1)):=fun q=>by
    rw [BC (by omega) (by omega),show ((i:Int) - 1)=((i - 1:Nat):Int) by omega]
    exact Rn (by omega)
   rw [if_pos (by simp only [bz];omega),Rn hi,wrapS' (by omega)]
   simp only [Option.bind_some,jB,gd]
   unfold jA hP
   generalize QB s i=c at *
   by_cases hi0:0<i
   ·rw [hp hi0]
    generalize QB s (i - 1)=d at *
    grind
   ·grind) (by
   show Jj s _=_
   unfold Jj
   rw [if_neg (by simp only [bz];omega)])
  have hb1:(if decide ((s.length:Int)<1)=true then true else decide (32<(s.length:Int)))=false:=by simp only [bz];omega
  simp only [Option.bind_some,hb1,h0,hl,gd,jB,WA,hk]
  unfold K4
  generalize ((List.range s.length).all fun i=>hP (QB s i)&& !jA s i)=y
  generalize QB s 0=c0
  generalize QB s (s.length - 1)=c1
  grind
 ·have hb1:(if decide ((s.length:Int)<1)=true then true else decide (32<(s.length:Int)))=true:=by simp only [bz];omega
  have hw:K4 s=false:=by
   unfold K4;rw [decide_eq_false (fun q=>h ⟨q.1,q.2.1⟩)];rfl
  simp only [Option.bind_some,hb1,gd,hw]
  simp
theorem cf {β:Type} {p:Nat→Bool} {f:Nat→β} {B:Int→Option (Int⊕(Unit⊕β))} (n:Nat) (hn:n<9223372036854775807)
 (hB: ∀ i:Nat,i<n→B (i:Int)=some (if p i=true then .inr (.inr (f i))else .inl ((i:Int)+1))) (hE:B (n:Int)=some (.inr (.inl ()))):
 iter B FU 0=some (match (List.range n).find? p with | some i=> .inr (f i) | none=> .inl ()):=by
 have key: ∀ (k i N:Nat),i+k=n→k<N→iter B N (i:Int)=some (match (List.range' i k).find? p with | some i=> .inr (f i) | none=> .inl ()):=by
  intro k
  induction k with
  | zero=>
    intro i N hi hN
    obtain⟨N,rfl⟩: ∃ M,N=M+1:=⟨N - 1,by omega⟩
    obtain rfl:i=n:=by omega
    rw [DU hE];rfl
  | succ k ih=>
    intro i N hi hN
    obtain⟨N,rfl⟩: ∃ M,N=M+1:=⟨N - 1,by omega⟩
    have h:=hB i (by omega)
    rw [List.range'_succ,List.find?_cons]
    cases hp:p i
    ·rw [hp,if_neg (by simp)]at h
     rw [Eh h]
     have:=ih (i+1) N (by omega) (by omega)
     simpa using this
    ·rw [hp,if_pos rfl]at h
     rw [DU h]
 have:=key n 0 FU (by omega) (by unfold FU;omega)
 rw [List.range_eq_range']
 simpa using this
def UH (l:List (List UInt8)) (s:List UInt8):Bool:=(List.range l.length).any fun i=>l.getD i default==s
def UI:List (List UInt8):=[I9,Ik]
def UJ:List (List UInt8):=[Df,DW,ED,Fk,Fl,GY]
theorem fu {i:Nat} (h:i<6):(Ab ((1:Int)*2 ^ (min ((i:Int)).toNat (IntKind.i64).bits))==0)=false:=by
 have:i=0∨i=1∨i=2∨i=3∨i=4∨i=5:=by omega
 rcases this with rfl | rfl | rfl | rfl | rfl | rfl<;>decide
theorem Jx {n:Nat} {p:Nat→Bool} (h:(List.range n).find? p=none):(List.range n).any p=false:=by
 rw [List.find?_eq_none]at h
 rw [List.any_eq_false]
 exact h
theorem GC {n:Nat} {p:Nat→Bool} {i:Nat} (h:(List.range n).find? p=some i):(List.range n).any p=true∧i<n:=
 ⟨List.any_eq_true.2 ⟨i,List.mem_of_find?_eq_some h,List.find?_some h⟩,List.mem_range.1 (List.mem_of_find?_eq_some h)⟩
theorem hU (s:List UInt8): ∃ w,Dh s 6=some w∧(w==0)= !UH UJ s:=by
 unfold Dh
 rw [cf (p:=fun i=>UJ.getD i default==s) (f:=fun i=>Ab ((1:Int)*2 ^ (min ((i:Int)).toNat (IntKind.i64).bits))) (B:=fun v=>B2 s 6 v) 6 (by omega) (fun i hi=>by
  show B2 s 6 (i:Int)=_
  unfold B2
  rw [if_pos (by simp only [bz];omega),show (⟨Df,DW,ED,Fk,Fl,GY⟩:A6 (List UInt8)).l =UJ from rfl,WC (l:=UJ) hi,wrapS' (by omega)]
  simp only [Option.bind_some,Ks (show (0:Int)≤(i:Int) by omega)]
  cases h:(UJ.getD i default==s)<;>simp only [bne,h]<;>rfl) (by rfl)]
 cases h:(List.range 6).find? (fun i=>UJ.getD i default==s)with
 | none=>exact⟨0,rfl,by rw [show UH UJ s=_ from Jx h];rfl⟩
 | some i=>exact⟨_,rfl,by rw [fu (GC h).2,show UH UJ s=_ from(GC h).1];rfl⟩
theorem hY (s:List UInt8): ∃ w,C6 s 2=some w∧(w==0)= !UH UI s:=by
 unfold C6
 rw [cf (p:=fun i=>UI.getD i default==s) (f:=fun i=>Ab ((1:Int)*2 ^ (min ((i:Int)).toNat (IntKind.i64).bits))) (B:=fun v=>BM s 2 v) 2 (by omega) (fun i hi=>by
  show BM s 2 (i:Int)=_
  unfold BM
  rw [if_pos (by simp only [bz];omega),show (⟨I9,Ik⟩:A2 (List UInt8)).l =UI from rfl,WC (l:=UI) hi,wrapS' (by omega)]
  simp only [Option.bind_some,Ks (show (0:Int)≤(i:Int) by omega)]
  cases h:(UI.getD i default==s)<;>simp only [bne,h]<;>rfl) (by rfl)]
 cases h:(List.range 2).find? (fun i=>UI.getD i default==s)with
 | none=>exact⟨0,rfl,by rw [show UH UI s=_ from Jx h];rfl⟩
 | some i=>exact⟨_,rfl,by rw [fu (by have:=(GC h).2;omega),show UH UI s=_ from(GC h).1];rfl⟩
theorem cg (l:List (List UInt8)) (hl:l.length<9223372036854775807) (s:List UInt8): ∃ w,Of l s=some w∧decide (w<0)= !UH l s:=by
 unfold Of
 rw [cf (p:=fun i=>l.getD i default==s) (f:=fun i=>(i:Int)) (B:=fun v=>Hs l s v) l.length hl (fun i hi=>by
  show Hs l s (i:Int)=_
  unfold Hs
  rw [if_pos (by simp only [bz];omega),WC hi,wrapS' (by omega)]
  simp only [Option.bind_some]
  cases h:(l.getD i default==s)<;>simp) (by
  show Hs l s _=_
  unfold Hs
  rw [if_neg (by simp only [bz];omega)])]
 cases h:(List.range l.length).find? (fun i=>l.getD i default==s)with
 | none=>exact⟨-1,rfl,by rw [show UH l s=_ from Jx h];rfl⟩
 | some i=>exact⟨(i:Int),rfl,by rw [show UH l s=_ from(GC h).1];exact decide_eq_false (by omega)⟩
def Zl (s:List UInt8):Bool:=K4 s&&(!UH UI s&& !UH UJ s)
theorem UK (s:List UInt8):Ji s=some (Zl s):=by
 obtain⟨w1,h1,e1⟩:=hY s
 obtain⟨w2,h2,e2⟩:=hU s
 unfold Ji Zl
 simp only [Option.bind_some,ft,h1,h2,gd]
 rw [←e1, ←e2]
 generalize K4 s=x
 grind
theorem Zm (s:List UInt8):Og s=some (Zl s):=by
 obtain⟨w1,h1,e1⟩:=cg UI (by decide) s
 obtain⟨w2,h2,e2⟩:=cg UJ (by decide) s
 unfold Og Zl
 simp only [Option.bind_some,jC,show NE=some UI from rfl,show LH=some UJ from rfl,gd]
 rw [←e1, ←e2]
 generalize K4 s=x
 cases x<;>simp [h1,h2]
 all_goals grind
end Go.PL
