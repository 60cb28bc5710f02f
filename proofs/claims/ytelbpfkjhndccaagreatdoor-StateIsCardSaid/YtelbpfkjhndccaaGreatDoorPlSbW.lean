/- Plain laws of states: searches, lists, loops that count. -/
import Derived.Test.YtelbpfkjhndccaaGreatDoorPlSbV
import Derived.Test.YtelbpfkjhndccaaGreatDoorPlSbA
namespace Go.PL
open Go
set_option maxRecDepth 100000
set_option linter.all false
set_option maxHeartbeats 4000000
theorem rT {τ ε ρ:Type} {B:τ→Option (τ⊕(ε⊕ρ))} {q:Nat→Bool} {s0:τ} (S:Nat→τ) (e:ε) (n:Nat) (hn:n<9223372036854775807) (h0:s0=S 0)
 (hB: ∀ i,i<n→(List.range i).all q=true→if q i=true then B (S i)=some (.inl (S (i+1)))else ∃ r,B (S i)=some (.inr (.inr r))) (hE:B (S n)=some (.inr (.inl e))):
 if(List.range n).all q=true then iter B FU s0=some (.inl e)else ∃ r,iter B FU s0=some (.inr r):=by
 have key: ∀ (k i N:Nat),i+k=n→k<N→(List.range i).all q=true→if(List.range' i k).all q=true then iter B N (S i)=some (.inl e)else ∃ r,iter B N (S i)=some (.inr r):=by
  intro k
  induction k with
  | zero=>
    intro i N hi hN _
    obtain⟨N,rfl⟩: ∃ M,N=M+1:=⟨N - 1,by omega⟩
    obtain rfl:i=n:=by omega
    rw [if_pos (by simp)]
    exact DM hE
  | succ k ih=>
    intro i N hi hN hq
    obtain⟨N,rfl⟩: ∃ M,N=M+1:=⟨N - 1,by omega⟩
    have h:=hB i (by omega) hq
    rw [List.range'_succ,List.all_cons]
    cases hp:q i
    ·rw [hp,if_neg (by simp)]at h
     obtain⟨r,h⟩:=h
     rw [Bool.false_and,if_neg (by simp)]
     exact⟨r,DM h⟩
    ·rw [hp,if_pos rfl]at h
     rw [Ew h,Bool.true_and]
     exact ih (i+1) N (by omega) (by omega) (by rw [List.range_succ,List.all_append,hq];simp [hp])
 have:=key n 0 FU (by omega) (by unfold FU;omega) (by simp)
 rw [List.range_eq_range',h0]
 exact this
theorem oY {τ ε ρ β:Type} {B:τ→Option (τ⊕(ε⊕ρ))} {q:Nat→Bool} {s0:τ} {K:ε→Option β} {a:Option β} (S:Nat→τ) (e:ε) (n:Nat) (hn:n<9223372036854775807) (h0:s0=S 0)
 (hB: ∀ i,i<n→(List.range i).all q=true→if q i=true then B (S i)=some (.inl (S (i+1)))else ∃ r,B (S i)=some (.inr (.inr r))) (hE:B (S n)=some (.inr (.inl e))):
 (iter B FU s0).bind (Sum.elim K (fun _=>a))=if(List.range n).all q=true then K e else a:=by
 have:=rT S e n hn h0 hB hE
 cases h:(List.range n).all q
 ·rw [h,if_neg (by simp)]at this
  obtain⟨r,this⟩:=this
  rw [this];rfl
 ·rw [h,if_pos rfl]at this
  rw [this];rfl
def qg (s:Ai) (k:Int):Option Al:=s.Objects.find? fun o=>o.Id==k
def zO:Al:=⟨0,0,0,0,0,false,false,false,false,0,⟨0,0,0⟩,0,0,0,false,0,0⟩
def Ou (s:Ai) (k:Int):Al×Bool:=match qg s k with
 | some o=>(o,true)
 | none=>(zO,false)
theorem rU {i j:Nat} (h:i+j<9223372036854775807):Ab (Int.fdiv (IntKind.u64.wrap (Ab ((i:Int)+(j:Int)))) (2 ^ (min ((1:Int)).toNat (IntKind.u64).bits)))=(((i+j) / 2:Nat):Int):=by
 have e:(2:Int) ^ (min ((1:Int)).toNat (IntKind.u64).bits)=2:=by decide
 rw [e,BD (x:=(i:Int)+(j:Int)) (by omega) (by omega),Pf (by omega) (by omega),Int.fdiv_eq_ediv_of_nonneg _ (by omega),BD (by omega) (by omega)]
 omega
theorem qh (a b:Int):Ej a b=some (if a<b then -1 else if b<a then 1 else 0):=by
 unfold Ej Jf
 simp only [Option.bind_some]
 by_cases h1:a<b
 ·simp [h1]
 ·by_cases h2:b<a<;>simp [h1,h2]
theorem uN {l:List Al} {k:Int} (hr:R9 Al.Id l) (hn:l.length<4611686018427387903):
 ∃ i:Nat,i≤l.length∧AL l k=some ((i:Int),if h:i<l.length then decide (l[i].Id =k)else false)∧l.find? (fun o=>o.Id==k)=if h:i<l.length then(if l[i].Id =k then some l[i]else none)else none:=by
 obtain⟨i,hi,h1,h2,h3⟩:=oV (key:=Al.Id) (l:=l) (k:=k) (r:=fun i=>(i:Int)) (B:=fun v=>Am l k v.1 v.2) (fun i j h hl hij hj hh=>by
  show Am l k (i:Int) (j:Int)=_
  unfold Am
  rw [if_pos (by simpa using hij),rU (by omega), ←hh,BA hl]
  simp only [Option.bind_some,qh]
  by_cases hk:l[h].Id <k
  ·rw [if_pos hk,if_pos hk,if_pos (by simp),BD (by omega) (by omega)]
  ·rw [if_neg hk,if_neg hk,if_neg (by split<;>simp)]) (fun i hi=>by
  show Am l k (i:Int) (i:Int)=_
  unfold Am
  rw [if_neg (by simp)]) hr (by omega)
 refine⟨i,hi,?_,oW hi h2 h3 hr⟩
 unfold AL
 rw [h1,Option.bind_some]
 unfold AG Aw
 by_cases h:i<l.length
 ·have hd:decide ((i:Int)<(l.length:Int))=true:=by simpa using h
  rw [dif_pos h]
  simp only [hd,beq_self_eq_true,ii,BA h,Option.bind_some,if_true,qh]
  congr 2
  by_cases q1:l[i].Id <k
  ·rw [if_pos q1];simp;omega
  ·by_cases q2:k<l[i].Id
   ·rw [if_neg q1,if_pos q2];simp;omega
   ·rw [if_neg q1,if_neg q2];simp;omega
 ·have hd:decide ((i:Int)<(l.length:Int))=false:=by simpa using h
  rw [dif_neg h,hd]
  rfl
theorem PG {s:Ai} (hr:R9 Al.Id s.Objects) (hn:s.Objects.length<4611686018427387903) (k:Int):CE s k=some (Ou s k):=by
 obtain⟨i,hi,h1,h2⟩:=uN (k:=k) hr hn
 unfold CE Ou qg
 rw [h1,h2]
 by_cases h:i<s.Objects.length
 ·rw [dif_pos h,dif_pos h]
  by_cases hk:s.Objects[i].Id =k
  ·simp only [hk,if_true,decide_true,Option.bind_some,BA h]
   rfl
  ·simp only [hk,if_false,decide_false,Option.bind_some]
   rfl
 ·rw [dif_neg h,dif_neg h]
  rfl
theorem oZ {s:Ai} (hn:s.Objects.length<9223372036854775807) (k:Int):Qv s k=some (Ou s k):=by
 unfold Qv Q7
 rw [cZ (p:=fun i=>(s.Objects.getD i default).Id ==k) (f:=fun i=>(i:Int)) (B:=fun v=>Fx s k v) s.Objects.length hn (fun i hi=>by
  show Fx s k (i:Int)=_
  unfold Fx
  rw [if_pos (by simpa using hi),RB hi,wrapS' (by omega)]
  simp only [Option.bind_some]
  cases (s.Objects.getD i default).Id ==k<;>rfl) (by
  show Fx s k _=_
  unfold Fx;rw [if_neg (by simp)])]
 unfold Ou qg
 cases h:(List.range s.Objects.length).find? (fun i=>(s.Objects.getD i default).Id ==k)with
 | none=>
   rw [List.find?_eq_none]at h
   have:s.Objects.find? (fun o=>o.Id==k)=none:=by
    rw [List.find?_eq_none]
    intro x hx
    obtain⟨m,hm,rfl⟩:=List.mem_iff_getElem.1 hx
    have:=h m (List.mem_range.2 hm)
    rwa [Cu hm]at this
   rw [this]
   rfl
 | some i=>
   have hi:=(FX h).2
   have h1:=List.find?_some h
   have:s.Objects.find? (fun o=>o.Id==k)=some s.Objects[i]:=by
    rw [List.find?_eq_some_iff_getElem]
    refine⟨by rwa [Cu hi]at h1,i,hi,rfl,fun j hj=>?_⟩
    rw [List.find?_eq_some_iff_getElem]at h
    obtain⟨-,m,hm,hmi,h2⟩:=h
    rw [List.getElem_range]at hmi
    subst hmi
    have:=h2 j hj
    rwa [List.getElem_range,Cu (by omega)]at this
   rw [this]
   simp only [Option.bind_some,Sum.elim_inr]
   rw [if_neg (by simp),BA hi]
   rfl
theorem mX {s:Ai} (hn:s.Objects.length<9223372036854775807) (k:Int):K9 s k=some (Ou s k):=by
 unfold K9
 rw [oZ hn];rfl
def Co (s:Ai) (z w k:Int):Bool:=match qg s k with
 | some o=>o.Zone==z&&(decide (w<0)||o.Owner==w)
 | none=>false
theorem Sa (s:Ai) (z w k:Int):(if(if(!(Ou s k).2)=true then true else(Ou s k).1.Zone != z)=true then true else(if(decide ((0:Int)≤w))=true then(Ou s k).1.Owner != w else false))= !Co s z w k:=by
 unfold Ou Co
 cases qg s k with
 | none=>rfl
 | some o=>
   dsimp only
   have:decide ((0:Int)≤w)= !decide (w<0):=by rw [Bool.eq_iff_iff];simp
   rw [this]
   unfold bne
   cases o.Zone==z<;>cases o.Owner==w<;>cases decide (w<0)<;>rfl
theorem Uc (s:Ai) (z w:Int) (l:List Int):l.all (Co s z w)=true↔I1 Al.Id Al.Zone Al.Owner s.Objects z w l:=by
 rw [List.all_eq_true]
 unfold I1
 refine forall_congr' fun k=>forall_congr' fun _=>?_
 unfold Co
 show _↔ ∃ o,qg s k=some o∧_
 cases qg s k with
 | none=>simp
 | some o=>
   simp
   intro _
   constructor
   ·rintro(h | h)
    ·omega
    ·exact fun _=>h
   ·intro h
    by_cases hw:w<0
    ·exact .inl hw
    ·exact .inr (h (by omega))
def Fb (kv:List (Int×Int)) (l:List Int):List (Int×Int):=l.foldl (fun kv k=>HC kv k (Ab (Cv kv k+1))) kv
theorem YP (kv:List (Int×Int)) (l:List Int) (k:Int):Fb kv (l++[k])=HC (Fb kv l) k (Ab (Cv (Fb kv l) k+1)):=by
 unfold Fb;rw [List.foldl_append];rfl
theorem S6 (kv:List (Int×Int)) (l m:List Int):Fb kv (l++m)=Fb (Fb kv l) m:=by
 unfold Fb;rw [List.foldl_append]
theorem Xg (kv:List (Int×Int)):Fb kv []=kv:=rfl
theorem O2: ∀ (l:List Int) {kv:List (Int×Int)} {acc:List Int},ar kv acc→acc.length+l.length<9223372036854775807→ar (Fb kv l) (acc++l)
 | [],kv,acc,h,_=>by rw [List.append_nil];exact h
 | k::l,kv,acc,h,hl=>by
   rw [List.length_cons]at hl
   have hc:acc.count k≤acc.length:=List.count_le_length
   have h1:ar (HC kv k (Ab (Cv kv k+1))) (acc++[k]):=h.add (by rw [h k,BD (by omega) (by omega)])
   have:=O2 l h1 (by simp;omega)
   rw [List.append_assoc]at this
   exact this
theorem O3 {α:Type} {l:List α} {i:Nat} (h:i<l.length):l.take (i+1)=l.take i++[l[i]]:=by
 rw [List.take_succ_eq_append_getElem h]
theorem Rd {ε ρ:Type} {l:List Int} {good:Int→Bool} {kv:List (Int×Int)} {B:Int×List (Int×Int)→Option ((Int×List (Int×Int))⊕(List (Int×Int)⊕List (Int×Int)))} (hn:l.length<9223372036854775807)
 (hB: ∀ (i:Nat) (h:i<l.length) kv,B ((i:Int),kv)=some (if(!good l[i])=true then .inr (.inr kv)else .inl (Ab ((i:Int)+1),HC kv l[i] (Ab (Cv kv l[i]+1)))))
 (hE: ∀ kv,B ((l.length:Int),kv)=some (.inr (.inl kv))):
 if l.all good=true then iter B FU (0,kv)=some (.inl (Fb kv l))else ∃ r,iter B FU (0,kv)=some (.inr r):=by
 have:=rT (q:=fun i=>good (l.getD i default)) (B:=B) (fun i=>((i:Int),Fb kv (l.take i))) (Fb kv l) l.length hn (s0:=(0,kv)) (by simp [Xg]) (fun i hi _=>by
  rw [hB i hi,Cu hi]
  cases hg:good l[i]
  ·rw [if_neg (by simp)]
   exact⟨_,rfl⟩
  ·rw [if_pos rfl,if_neg (by simp),O3 hi,YP,wrapS' (by omega)]
   rfl) (by
  rw [hE,List.take_length])
 rwa [T9 l good]at this
theorem iA {l:List Int} (hn:l.length<9223372036854775807) (k:Int):MK l k=some (l.count k:Int):=by
 unfold MK
 have hb: ∀ i,((l.take i).count k:Int)≤i:=fun i=>by
  have h1:(l.take i).count k≤(l.take i).length :=List.count_le_length
  have h2:(l.take i).length ≤i:=by rw [List.length_take];omega
  omega
 refine py (S:=fun i=>(((l.take i).count k:Int),(i:Int))) (r:=(l.count k:Int)) l.length hn (by simp) (fun i hi=>?_) ?_ rfl
 ·dsimp only
  have:=hb i
  unfold Kr Hs
  rw [if_pos (by simpa using hi),BA hi,O3 hi,List.count_append,List.count_singleton]
  rw [wrapS' (by omega),BD (by omega) (by omega)]
  simp only [Option.bind_some]
  cases l[i]==k<;>simp
 ·dsimp only
  unfold Kr
  rw [if_neg (by simp),List.take_length]
def Sb (l:List Cb):List Int:=(l.filter fun x=>x.Kind==1).map Cb.Id
theorem dy {l:List Cb} {i:Nat} (h:i<l.length):Sb (l.take (i+1))=Sb (l.take i)++(if(l[i].Kind ==1)=true then [l[i].Id]else []):=by
 unfold Sb
 rw [O3 h,List.filter_append,List.map_append]
 cases hk:l[i].Kind ==1<;>simp [hk]
theorem iB (l:List Cb):(Sb l).length ≤l.length:=by
 unfold Sb;rw [List.length_map];exact List.length_filter_le _ _
theorem mY {s:Ai} (hn:s.Stack.length<9223372036854775807) (k:Int):Ns s k=some ((Sb s.Stack).count k:Int):=by
 unfold Ns
 have hb: ∀ i,((Sb (s.Stack.take i)).count k:Int)≤i:=fun i=>by
  have h1:(Sb (s.Stack.take i)).count k≤(Sb (s.Stack.take i)).length :=List.count_le_length
  have h2:=iB (s.Stack.take i)
  have h3:(s.Stack.take i).length ≤i:=by rw [List.length_take];omega
  omega
 refine py (S:=fun i=>(((Sb (s.Stack.take i)).count k:Int),(i:Int))) (r:=((Sb s.Stack).count k:Int)) s.Stack.length hn (by simp [Sb]) (fun i hi=>?_) ?_ rfl
 ·dsimp only
  have:=hb i
  unfold Jg F8
  rw [if_pos (by simpa using hi),BA hi,dy hi,List.count_append]
  rw [wrapS' (by omega),BD (by omega) (by omega)]
  simp only [Option.bind_some,Rh]
  cases hk:s.Stack[i].Kind ==1
  ·simp
  ·cases hj:s.Stack[i].Id ==k<;>simp [hj,List.count_singleton]
 ·dsimp only
  unfold Jg
  rw [if_neg (by simp),List.take_length]
theorem S7 {s:Ai} {l:List Int} (ho:s.Objects.length<9223372036854775807) (hn:l.length<9223372036854775807) (z w:Int):KB s l z w=some (l.all fun k=>Co s z w k&&l.count k==1):=by
 unfold KB
 rw [Ua (l:=l) (q:=fun k=>Co s z w k&&l.count k==1) (B:=fun v=>GJ s l z w v) hn (fun i hi=>by
  show GJ s l z w (i:Int)=_
  unfold GJ
  rw [if_pos (by simpa using hi),BA hi]
  simp only [Option.bind_some,mX ho,Rh,iA hn,Sa]
  rw [wrapS' (by omega)]
  have e1:((l.count l[i]:Int) != 1)= !(l.count l[i]==1):=by rw [Bool.eq_iff_iff];simp;omega
  cases hg:Co s z w l[i]
  ·simp
  ·simp only [Bool.not_true,Bool.false_eq_true,if_false,beq_self_eq_true,if_true,e1,Bool.true_and]
   cases l.count l[i]==1<;>rfl) (by
  show GJ s l z w _=_
  unfold GJ;rw [if_neg (by simp)])]
 unfold LU
 exact jX _
end Go.PL
