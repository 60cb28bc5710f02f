/- Plain laws of states: words, subtypes, filters. -/
import Derived.Test.YtelbpfkjhndccaaGreatDoorPlOtoPlPj
import Derived.Lib.IndexMore
import Derived.Test.YtelbpfkjhndccaaGreatDoorPlSbX
namespace Go.PL
open Go
set_option maxRecDepth 100000
set_option linter.all false
set_option maxHeartbeats 1000000
theorem RB {α:Type} [Inhabited α] {l:List α} {i:Nat} (h:i<l.length):idx l (i:Int)=some (l.getD i default):=by rw [BA h,Cu h]
theorem wrapS' {i:Nat} (h:i<9223372036854775807):Ab ((i:Int)+1)=(i:Int)+1:=by rw [BD (by omega) (by omega)]
theorem Z8 {p:Nat→Bool} {B:Int→Option (Int⊕(Unit⊕Unit))} {K a:Option Bool} (n:Nat) (hn:n<9223372036854775807)
 (hB: ∀ i:Nat,i<n→B (i:Int)=some (if p i=true then .inl ((i:Int)+1)else .inr (.inr ()))) (hE:B (n:Int)=some (.inr (.inl ()))):
 (iter B FU 0).bind (Sum.elim (fun _=>K) (fun _=>a))=if(List.range n).all p=true then K else a:=by
 have key: ∀ (k i N:Nat),i+k=n→k<N→(iter B N (i:Int)).bind (Sum.elim (fun _=>K) (fun _=>a))=if(List.range' i k).all p=true then K else a:=by
  intro k
  induction k with
  | zero=>
    intro i N hi hN
    obtain⟨N,rfl⟩: ∃ M,N=M+1:=⟨N - 1,by omega⟩
    obtain rfl:i=n:=by omega
    rw [DM hE];rfl
  | succ k ih=>
    intro i N hi hN
    obtain⟨N,rfl⟩: ∃ M,N=M+1:=⟨N - 1,by omega⟩
    have h:=hB i (by omega)
    rw [List.range'_succ,List.all_cons]
    cases hp:p i
    ·rw [hp,if_neg (by simp)]at h
     rw [DM h];simp
    ·rw [hp,if_pos rfl]at h
     rw [Ew h,Bool.true_and]
     have:=ih (i+1) N (by omega) (by omega)
     rw [show ((i+1:Nat):Int)=(i:Int)+1 by omega]at this
     exact this
 have:=key n 0 FU (by omega) (by unfold FU;omega)
 rw [List.range_eq_range']
 simpa using this
theorem cW:((List.range 64).all fun a=>(List.range 64).all fun b=>Ht (a:Int) (b:Int) 63==some (PS .i64 a b==0))=true:=by kernel_rfl
theorem cX:((List.range 32).all fun a=>(List.range 32).all fun b=>Ht (a:Int) (b:Int) 31==some (PS .i64 a b==0))=true:=by kernel_rfl
theorem ib (a b:Int):Ht a b 63=some (decide (0≤a∧a≤63∧0≤b∧b≤63)&&(PS .i64 a b==0)):=by
 by_cases h:0≤a∧a≤63∧0≤b∧b≤63
 ·have t:=cW
  rw [List.all_eq_true]at t
  have t1:=t a.toNat (List.mem_range.2 (by omega))
  rw [List.all_eq_true]at t1
  have t2:=t1 b.toNat (List.mem_range.2 (by omega))
  rw [Int.toNat_of_nonneg h.1,Int.toNat_of_nonneg h.2.2.1]at t2
  rw [beq_iff_eq.1 t2,decide_eq_true h,Bool.true_and]
 ·have:(if(if(if decide (a<0)=true then true else decide (63<a))=true then true else decide (b<0))=true then true else decide (63<b))=true:=by simp only [bz];omega
  unfold Ht
  simp only [Option.bind_some]
  rw [if_pos this,decide_eq_false h,Bool.false_and]
theorem ic (a b:Int):Ht a b 31=some (decide (0≤a∧a≤31∧0≤b∧b≤31)&&(PS .i64 a b==0)):=by
 by_cases h:0≤a∧a≤31∧0≤b∧b≤31
 ·have t:=cX
  rw [List.all_eq_true]at t
  have t1:=t a.toNat (List.mem_range.2 (by omega))
  rw [List.all_eq_true]at t1
  have t2:=t1 b.toNat (List.mem_range.2 (by omega))
  rw [Int.toNat_of_nonneg h.1,Int.toNat_of_nonneg h.2.2.1]at t2
  rw [beq_iff_eq.1 t2,decide_eq_true h,Bool.true_and]
 ·have:(if(if(if decide (a<0)=true then true else decide (31<a))=true then true else decide (b<0))=true then true else decide (31<b))=true:=by simp only [bz];omega
  unfold Ht
  simp only [Option.bind_some]
  rw [if_pos this,decide_eq_false h,Bool.false_and]
def Tb (s:List UInt8) (i:Nat):Int:=(s.getD i 0).toNat
def nX (c:Int):Bool:=decide ((97≤c∧c≤122)∨(48≤c∧c≤57)∨c=45)
def pN (s:List UInt8) (i:Nat):Bool:=decide (0<i∧Tb s i=45∧Tb s (i - 1)=45)
def NA (s:List UInt8):Bool:=decide (1≤s.length∧s.length≤32∧(97≤Tb s 0∧Tb s 0≤122)∧Tb s (s.length - 1) ≠ 45)&&(List.range s.length).all fun i=>nX (Tb s i)&& !pN s i
theorem T5 {s:List UInt8} {i:Nat} (h:i<s.length):sidx s (i:Int)=some (Tb s i):=by
 unfold sidx
 rw [if_pos (by omega)]
 rfl
theorem cY (s:List UInt8) (i:Nat):Lib.occAt s [45,45] i=true↔i+1<s.length∧Tb s i=45∧Tb s (i+1)=45:=by
 unfold Lib.occAt Tb
 have h1:s.getD i 0=(s.drop i).getD 0 0:=by simp [List.getD_eq_getElem?_getD,List.getElem?_drop]
 have h2:s.getD (i+1) 0=(s.drop i).getD 1 0:=by simp [List.getD_eq_getElem?_getD,List.getElem?_drop]
 have h3:(s.drop i).length =s.length - i:=List.length_drop
 rw [h1,h2]
 have e: ∀ c:UInt8,((c.toNat:Int)=45)↔c=45:=fun c=>by
  constructor
  ·intro h
   apply UInt8.toNat_inj.1
   have:(45:UInt8).toNat =45:=rfl
   omega
  ·rintro rfl;rfl
 rw [e,e]
 generalize s.drop i=l at *
 match l,h3 with
 | [],h3=>simp at h3;simp [List.isPrefixOf]
 | [a],h3=>simp at h3;simp [List.isPrefixOf]
 | a::b::t,h3=>
   simp at h3
   simp [List.isPrefixOf]
   constructor
   ·rintro⟨rfl,rfl⟩;exact⟨by omega,rfl,rfl⟩
   ·rintro⟨_,rfl,rfl⟩;exact⟨rfl,rfl⟩
theorem XQ (s:List UInt8):Lib.contains s [45,45]=(List.range s.length).any (pN s):=by
 rw [Bool.eq_iff_iff]
 unfold Lib.contains
 rw [decide_eq_true_iff,List.any_eq_true]
 rcases Lib.index_spec s [45,45]with ⟨h1,h2⟩ | ⟨i,h1,h2,h3,_⟩
 ·rw [h1]
  refine⟨fun h=>by omega,?_⟩
  rintro⟨j,hj,hd⟩
  have hj:=List.mem_range.1 hj
  unfold pN at hd
  have hd:=of_decide_eq_true hd
  have:=(cY s (j - 1)).2 ⟨by omega,hd.2.2,by rw [show j - 1+1=j by omega];exact hd.2.1⟩
  rw [h2 (j - 1) (by omega)]at this
  cases this
 ·rw [h1]
  refine⟨fun _=>?_,fun _=>by omega⟩
  have:=(cY s i).1 h3
  exact⟨i+1,List.mem_range.2 this.1,decide_eq_true ⟨by omega,this.2.2,this.2.1⟩⟩
theorem jO {s:List UInt8} {i:Nat} (h:i<s.length):idx (F0 s) (i:Int)=some (Tb s i):=by
 have h':i<(F0 s).length :=by unfold F0;simpa using h
 rw [RB h']
 unfold Tb F0
 rw [List.getD_eq_getElem?_getD,List.getD_eq_getElem?_getD,List.getElem?_map,List.getElem?_eq_getElem h]
 rfl
theorem ma (l:List Nat) (p q:Nat→Bool):(l.all p&& !l.any q)=l.all fun i=>p i&& !q i:=by
 induction l with
 | nil=>rfl
 | cons a l ih=>simp only [List.all_cons,List.any_cons, ←ih];cases p a<;>cases q a<;>cases l.all p<;>cases l.any q<;>rfl
theorem mc (s:List UInt8):Q4 s=some (NA s):=by
 unfold Q4
 by_cases h:1≤s.length∧s.length≤32
 ·have h0:sidx s 0=some (Tb s 0):=T5 (i:=0) (by omega)
  have hl:sidx s (Ab ((s.length:Int) - 1))=some (Tb s (s.length - 1)):=by
   rw [BD (by omega) (by omega),show ((s.length:Int) - 1)=((s.length - 1:Nat):Int) by omega]
   exact T5 (by omega)
  have hc:OE s Yv=some ((List.range s.length).any (pN s)):=by
   unfold OE;rw [if_pos (by omega), ←XQ];rfl
  have hk:=Z8 (K:=some true) (a:=some false) (p:=fun i=>nX (Tb s i)) (B:=fun v=>GH s v) s.length (by omega) (fun i hi=>by
   show GH s (i:Int)=_
   unfold GH
   have hb:(F0 s).length =s.length:=by unfold F0;simp
   rw [if_pos (by simp only [bz,hb];omega),jO hi,wrapS' (by omega)]
   simp only [Option.bind_some]
   generalize Tb s i=c
   by_cases hc:nX c=true
   ·rw [if_pos hc,if_neg]
    unfold nX at hc
    have:=of_decide_eq_true hc
    simp only [bz];omega
   ·rw [if_neg hc,if_pos]
    unfold nX at hc
    have:=of_decide_eq_false (Bool.eq_false_iff.2 hc)
    simp only [bz];omega) (by
   show GH s _=_
   unfold GH
   have hb:(F0 s).length =s.length:=by unfold F0;simp
   rw [if_neg (by simp only [bz,hb];omega)])
  have hn:need (s.length≤140737488355328)=some ():=MJ (by omega)
  have hb1:(if((s.length:Int)==0)=true then true else decide (32<(s.length:Int)))=false:=by simp only [bz];omega
  simp only [Option.bind_some,hb1,h0,hl,hc,hn,gd,LM,hk]
  unfold NA
  rw [←ma]
  generalize (List.range s.length).any (pN s)=x
  generalize ((List.range s.length).all fun i=>nX (Tb s i))=y
  generalize Tb s 0=c0
  generalize Tb s (s.length - 1)=c1
  grind
 ·have hb1:(if((s.length:Int)==0)=true then true else decide (32<(s.length:Int)))=true:=by simp only [bz];omega
  have hw:NA s=false:=by
   unfold NA;rw [decide_eq_false (fun q=>h ⟨q.1,q.2.1⟩)];rfl
  simp only [Option.bind_some,hb1,gd,hw]
  simp
theorem pO (c:Int):Q8 c=some (decide (97≤c∧c≤122)):=by
 unfold Q8
 simp only [Option.bind_some]
 congr 1
 rw [Bool.eq_iff_iff];simp
theorem pP (s:List UInt8):TT s=some (NA s):=by
 unfold TT
 by_cases h:1≤s.length∧s.length≤32
 ·have h0:sidx s 0=some (Tb s 0):=T5 (i:=0) (by omega)
  have hl:sidx s (Ab ((s.length:Int) - 1))=some (Tb s (s.length - 1)):=by
   rw [BD (by omega) (by omega),show ((s.length:Int) - 1)=((s.length - 1:Nat):Int) by omega]
   exact T5 (by omega)
  have hk:=Z8 (K:=some true) (a:=some false) (p:=fun i=>nX (Tb s i)&& !pN s i) (B:=fun v=>HY s v) s.length (by omega) (fun i hi=>by
   show HY s (i:Int)=_
   unfold HY
   have hp:0<i→sidx s (Ab ((i:Int) - 1))=some (Tb s (i - 1)):=fun q=>by
    rw [BD (by omega) (by omega),show ((i:Int) - 1)=((i - 1:Nat):Int) by omega]
    exact T5 (by omega)
   rw [if_pos (by simp only [bz];omega),T5 hi,wrapS' (by omega)]
   simp only [Option.bind_some,pO,gd]
   unfold pN nX
   generalize Tb s i=c at *
   by_cases hi0:0<i
   ·rw [hp hi0]
    generalize Tb s (i - 1)=d at *
    grind
   ·grind) (by
   show HY s _=_
   unfold HY
   rw [if_neg (by simp only [bz];omega)])
  have hb1:(if decide ((s.length:Int)<1)=true then true else decide (32<(s.length:Int)))=false:=by simp only [bz];omega
  simp only [Option.bind_some,hb1,h0,hl,gd,pO,OU,hk]
  unfold NA
  generalize ((List.range s.length).all fun i=>nX (Tb s i)&& !pN s i)=y
  generalize Tb s 0=c0
  generalize Tb s (s.length - 1)=c1
  grind
 ·have hb1:(if decide ((s.length:Int)<1)=true then true else decide (32<(s.length:Int)))=true:=by simp only [bz];omega
  have hw:NA s=false:=by
   unfold NA;rw [decide_eq_false (fun q=>h ⟨q.1,q.2.1⟩)];rfl
  simp only [Option.bind_some,hb1,gd,hw]
  simp
theorem cZ {β:Type} {p:Nat→Bool} {f:Nat→β} {B:Int→Option (Int⊕(Unit⊕β))} (n:Nat) (hn:n<9223372036854775807)
 (hB: ∀ i:Nat,i<n→B (i:Int)=some (if p i=true then .inr (.inr (f i))else .inl ((i:Int)+1))) (hE:B (n:Int)=some (.inr (.inl ()))):
 iter B FU 0=some (match (List.range n).find? p with | some i=> .inr (f i) | none=> .inl ()):=by
 have key: ∀ (k i N:Nat),i+k=n→k<N→iter B N (i:Int)=some (match (List.range' i k).find? p with | some i=> .inr (f i) | none=> .inl ()):=by
  intro k
  induction k with
  | zero=>
    intro i N hi hN
    obtain⟨N,rfl⟩: ∃ M,N=M+1:=⟨N - 1,by omega⟩
    obtain rfl:i=n:=by omega
    rw [DM hE];rfl
  | succ k ih=>
    intro i N hi hN
    obtain⟨N,rfl⟩: ∃ M,N=M+1:=⟨N - 1,by omega⟩
    have h:=hB i (by omega)
    rw [List.range'_succ,List.find?_cons]
    cases hp:p i
    ·rw [hp,if_neg (by simp)]at h
     rw [Ew h]
     have:=ih (i+1) N (by omega) (by omega)
     simpa using this
    ·rw [hp,if_pos rfl]at h
     rw [DM h]
 have:=key n 0 FU (by omega) (by unfold FU;omega)
 rw [List.range_eq_range']
 simpa using this
def W2 (l:List (List UInt8)) (s:List UInt8):Bool:=(List.range l.length).any fun i=>l.getD i default==s
def W3:List (List UInt8):=[H9,GL]
def W4:List (List UInt8):=[CL,Dg,DN,EN,EO,F2]
theorem md {i:Nat} (h:i<6):(Ab ((1:Int)*2 ^ (min ((i:Int)).toNat (IntKind.i64).bits))==0)=false:=by
 have:i=0∨i=1∨i=2∨i=3∨i=4∨i=5:=by omega
 rcases this with rfl | rfl | rfl | rfl | rfl | rfl<;>decide
theorem Lz {n:Nat} {p:Nat→Bool} (h:(List.range n).find? p=none):(List.range n).any p=false:=by
 rw [List.find?_eq_none]at h
 rw [List.any_eq_false]
 exact h
theorem FX {n:Nat} {p:Nat→Bool} {i:Nat} (h:(List.range n).find? p=some i):(List.range n).any p=true∧i<n:=
 ⟨List.any_eq_true.2 ⟨i,List.mem_of_find?_eq_some h,List.find?_some h⟩,List.mem_range.1 (List.mem_of_find?_eq_some h)⟩
theorem nY (s:List UInt8): ∃ w,Dv s 6=some w∧(w==0)= !W2 W4 s:=by
 unfold Dv
 rw [cZ (p:=fun i=>W4.getD i default==s) (f:=fun i=>Ab ((1:Int)*2 ^ (min ((i:Int)).toNat (IntKind.i64).bits))) (B:=fun v=>B8 s 6 v) 6 (by omega) (fun i hi=>by
  show B8 s 6 (i:Int)=_
  unfold B8
  rw [if_pos (by simp only [bz];omega),show (⟨CL,Dg,DN,EN,EO,F2⟩:A6 (List UInt8)).l =W4 from rfl,RB (l:=W4) hi,wrapS' (by omega)]
  simp only [Option.bind_some,MJ (show (0:Int)≤(i:Int) by omega)]
  cases h:(W4.getD i default==s)<;>simp only [bne,h]<;>rfl) (by rfl)]
 cases h:(List.range 6).find? (fun i=>W4.getD i default==s)with
 | none=>exact⟨0,rfl,by rw [show W2 W4 s=_ from Lz h];rfl⟩
 | some i=>exact⟨_,rfl,by rw [md (FX h).2,show W2 W4 s=_ from(FX h).1];rfl⟩
theorem nZ (s:List UInt8): ∃ w,Dh s 2=some w∧(w==0)= !W2 W3 s:=by
 unfold Dh
 rw [cZ (p:=fun i=>W3.getD i default==s) (f:=fun i=>Ab ((1:Int)*2 ^ (min ((i:Int)).toNat (IntKind.i64).bits))) (B:=fun v=>BQ s 2 v) 2 (by omega) (fun i hi=>by
  show BQ s 2 (i:Int)=_
  unfold BQ
  rw [if_pos (by simp only [bz];omega),show (⟨H9,GL⟩:A2 (List UInt8)).l =W3 from rfl,RB (l:=W3) hi,wrapS' (by omega)]
  simp only [Option.bind_some,MJ (show (0:Int)≤(i:Int) by omega)]
  cases h:(W3.getD i default==s)<;>simp only [bne,h]<;>rfl) (by rfl)]
 cases h:(List.range 2).find? (fun i=>W3.getD i default==s)with
 | none=>exact⟨0,rfl,by rw [show W2 W3 s=_ from Lz h];rfl⟩
 | some i=>exact⟨_,rfl,by rw [md (by have:=(FX h).2;omega),show W2 W3 s=_ from(FX h).1];rfl⟩
theorem ig (l:List (List UInt8)) (hl:l.length<9223372036854775807) (s:List UInt8): ∃ w,MM l s=some w∧decide (w<0)= !W2 l s:=by
 unfold MM
 rw [cZ (p:=fun i=>l.getD i default==s) (f:=fun i=>(i:Int)) (B:=fun v=>Fy l s v) l.length hl (fun i hi=>by
  show Fy l s (i:Int)=_
  unfold Fy
  rw [if_pos (by simp only [bz];omega),RB hi,wrapS' (by omega)]
  simp only [Option.bind_some]
  cases h:(l.getD i default==s)<;>simp) (by
  show Fy l s _=_
  unfold Fy
  rw [if_neg (by simp only [bz];omega)])]
 cases h:(List.range l.length).find? (fun i=>l.getD i default==s)with
 | none=>exact⟨-1,rfl,by rw [show W2 l s=_ from Lz h];rfl⟩
 | some i=>exact⟨(i:Int),rfl,by rw [show W2 l s=_ from(FX h).1];exact decide_eq_false (by omega)⟩
def c8 (s:List UInt8):Bool:=NA s&&(!W2 W3 s&& !W2 W4 s)
theorem W5 (s:List UInt8):K7 s=some (c8 s):=by
 obtain⟨w1,h1,e1⟩:=nZ s
 obtain⟨w2,h2,e2⟩:=nY s
 unfold K7 c8
 simp only [Option.bind_some,mc,h1,h2,gd]
 rw [←e1, ←e2]
 generalize NA s=x
 grind
theorem c9 (s:List UInt8):MO s=some (c8 s):=by
 obtain⟨w1,h1,e1⟩:=ig W3 (by decide) s
 obtain⟨w2,h2,e2⟩:=ig W4 (by decide) s
 unfold MO c8
 simp only [Option.bind_some,pP,show Ks=some W3 from rfl,show Jh=some W4 from rfl,gd]
 rw [←e1, ←e2]
 generalize NA s=x
 cases x<;>simp [h1,h2]
 all_goals grind
end Go.PL
