/- Plain laws of states: searches, lists, loops that count. -/
import Derived.Test.YtelbpfkjhndccaaGreatDoorPlSbV
import Derived.Test.YtelbpfkjhndccaaGreatDoorPlSbA
namespace Go.PL
open Go
set_option maxRecDepth 100000
set_option linter.all false
set_option maxHeartbeats 4000000
theorem nK {τ ε ρ:Type} {B:τ→Option (τ⊕(ε⊕ρ))} {q:Nat→Bool} {s0:τ} (S:Nat→τ) (e:ε) (n:Nat) (hn:n<9223372036854775807) (h0:s0=S 0)
 (hB: ∀ i,i<n→(List.range i).all q=true→if q i=true then B (S i)=some (.inl (S (i+1)))else ∃ r,B (S i)=some (.inr (.inr r))) (hE:B (S n)=some (.inr (.inl e))):
 if(List.range n).all q=true then iter B FU s0=some (.inl e)else ∃ r,iter B FU s0=some (.inr r):=by
 have key: ∀ (k i N:Nat),i+k=n→k<N→(List.range i).all q=true→if(List.range' i k).all q=true then iter B N (S i)=some (.inl e)else ∃ r,iter B N (S i)=some (.inr r):=by
  intro k
  induction k with
  | zero=>
    intro i N hi hN _
    obtain⟨N,rfl⟩: ∃ M,N=M+1:=⟨N - 1,by omega⟩
    obtain rfl:i=n:=by omega
    rw [if_pos (by simp)]
    exact DU hE
  | succ k ih=>
    intro i N hi hN hq
    obtain⟨N,rfl⟩: ∃ M,N=M+1:=⟨N - 1,by omega⟩
    have h:=hB i (by omega) hq
    rw [List.range'_succ,List.all_cons]
    cases hp:q i
    ·rw [hp,if_neg (by simp)]at h
     obtain⟨r,h⟩:=h
     rw [Bool.false_and,if_neg (by simp)]
     exact⟨r,DU h⟩
    ·rw [hp,if_pos rfl]at h
     rw [Eh h,Bool.true_and]
     exact ih (i+1) N (by omega) (by omega) (by rw [List.range_succ,List.all_append,hq];simp [hp])
 have:=key n 0 FU (by omega) (by unfold FU;omega) (by simp)
 rw [List.range_eq_range',h0]
 exact this
theorem iR {τ ε ρ β:Type} {B:τ→Option (τ⊕(ε⊕ρ))} {q:Nat→Bool} {s0:τ} {K:ε→Option β} {a:Option β} (S:Nat→τ) (e:ε) (n:Nat) (hn:n<9223372036854775807) (h0:s0=S 0)
 (hB: ∀ i,i<n→(List.range i).all q=true→if q i=true then B (S i)=some (.inl (S (i+1)))else ∃ r,B (S i)=some (.inr (.inr r))) (hE:B (S n)=some (.inr (.inl e))):
 (iter B FU s0).bind (Sum.elim K (fun _=>a))=if(List.range n).all q=true then K e else a:=by
 have:=nK S e n hn h0 hB hE
 cases h:(List.range n).all q
 ·rw [h,if_neg (by simp)]at this
  obtain⟨r,this⟩:=this
  rw [this];rfl
 ·rw [h,if_pos rfl]at this
  rw [this];rfl
def lY (s:Aj) (k:Int):Option Ao:=s.Objects.find? fun o=>o.Id==k
def zO:Ao:=⟨0,0,0,0,0,false,false,false,false,0,⟨0,0,0⟩,0,0,0,false,0,0⟩
def VM (s:Aj) (k:Int):Ao×Bool:=match lY s k with
 | some o=>(o,true)
 | none=>(zO,false)
theorem lF {i j:Nat} (h:i+j<9223372036854775807):Ab (Int.fdiv (IntKind.u64.wrap (Ab ((i:Int)+(j:Int)))) (2 ^ (min ((1:Int)).toNat (IntKind.u64).bits)))=(((i+j) / 2:Nat):Int):=by
 have e:(2:Int) ^ (min ((1:Int)).toNat (IntKind.u64).bits)=2:=by decide
 rw [e,BC (x:=(i:Int)+(j:Int)) (by omega) (by omega),Ml (by omega) (by omega),Int.fdiv_eq_ediv_of_nonneg _ (by omega),BC (by omega) (by omega)]
 omega
theorem jN (a b:Int):D5 a b=some (if a<b then -1 else if b<a then 1 else 0):=by
 unfold D5 HY
 simp only [Option.bind_some]
 by_cases h1:a<b
 ·simp [h1]
 ·by_cases h2:b<a<;>simp [h1,h2]
theorem oZ {l:List Ao} {k:Int} (hr:Ss Ao.Id l) (hn:l.length<4611686018427387903):
 ∃ i:Nat,i≤l.length∧AG l k=some ((i:Int),if h:i<l.length then decide (l[i].Id =k)else false)∧l.find? (fun o=>o.Id==k)=if h:i<l.length then(if l[i].Id =k then some l[i]else none)else none:=by
 obtain⟨i,hi,h1,h2,h3⟩:=iP (key:=Ao.Id) (l:=l) (k:=k) (r:=fun i=>(i:Int)) (B:=fun v=>Al l k v.1 v.2) (fun i j h hl hij hj hh=>by
  show Al l k (i:Int) (j:Int)=_
  unfold Al
  rw [if_pos (by simpa using hij),lF (by omega), ←hh,B8 hl]
  simp only [Option.bind_some,jN]
  by_cases hk:l[h].Id <k
  ·rw [if_pos hk,if_pos hk,if_pos (by simp),BC (by omega) (by omega)]
  ·rw [if_neg hk,if_neg hk,if_neg (by split<;>simp)]) (fun i hi=>by
  show Al l k (i:Int) (i:Int)=_
  unfold Al
  rw [if_neg (by simp)]) hr (by omega)
 refine⟨i,hi,?_,iQ hi h2 h3 hr⟩
 unfold AG
 rw [h1,Option.bind_some]
 unfold AC Aq
 by_cases h:i<l.length
 ·have hd:decide ((i:Int)<(l.length:Int))=true:=by simpa using h
  rw [dif_pos h]
  simp only [hd,beq_self_eq_true,dX,B8 h,Option.bind_some,if_true,jN]
  congr 2
  by_cases q1:l[i].Id <k
  ·rw [if_pos q1];simp;omega
  ·by_cases q2:k<l[i].Id
   ·rw [if_neg q1,if_pos q2];simp;omega
   ·rw [if_neg q1,if_neg q2];simp;omega
 ·have hd:decide ((i:Int)<(l.length:Int))=false:=by simpa using h
  rw [dif_neg h,hd]
  rfl
theorem M1 {s:Aj} (hr:Ss Ao.Id s.Objects) (hn:s.Objects.length<4611686018427387903) (k:Int):Cv s k=some (VM s k):=by
 obtain⟨i,hi,h1,h2⟩:=oZ (k:=k) hr hn
 unfold Cv VM lY
 rw [h1,h2]
 by_cases h:i<s.Objects.length
 ·rw [dif_pos h,dif_pos h]
  by_cases hk:s.Objects[i].Id =k
  ·simp only [hk,if_true,decide_true,Option.bind_some,B8 h]
   rfl
  ·simp only [hk,if_false,decide_false,Option.bind_some]
   rfl
 ·rw [dif_neg h,dif_neg h]
  rfl
def DD (s:Aj) (z w k:Int):Bool:=match lY s k with
 | some o=>o.Zone==z&&(decide (w<0)||o.Owner==w)
 | none=>false
theorem Rv (s:Aj) (z w k:Int):(if(if(!(VM s k).2)=true then true else(VM s k).1.Zone != z)=true then true else(if(decide ((0:Int)≤w))=true then(VM s k).1.Owner != w else false))= !DD s z w k:=by
 unfold VM DD
 cases lY s k with
 | none=>rfl
 | some o=>
   dsimp only
   have:decide ((0:Int)≤w)= !decide (w<0):=by rw [Bool.eq_iff_iff];simp
   rw [this]
   unfold bne
   cases o.Zone==z<;>cases o.Owner==w<;>cases decide (w<0)<;>rfl
def EM (kv:List (Int×Int)) (l:List Int):List (Int×Int):=l.foldl (fun kv k=>GE kv k (Ab (Cn kv k+1))) kv
theorem WL (kv:List (Int×Int)) (l:List Int) (k:Int):EM kv (l++[k])=GE (EM kv l) k (Ab (Cn (EM kv l) k+1)):=by
 unfold EM;rw [List.foldl_append];rfl
theorem Qu (kv:List (Int×Int)) (l m:List Int):EM kv (l++m)=EM (EM kv l) m:=by
 unfold EM;rw [List.foldl_append]
theorem UU (kv:List (Int×Int)):EM kv []=kv:=rfl
theorem Mb: ∀ (l:List Int) {kv:List (Int×Int)} {acc:List Int},X1 kv acc→acc.length+l.length<9223372036854775807→X1 (EM kv l) (acc++l)
 | [],kv,acc,h,_=>by rw [List.append_nil];exact h
 | k::l,kv,acc,h,hl=>by
   rw [List.length_cons]at hl
   have hc:acc.count k≤acc.length:=List.count_le_length
   have h1:X1 (GE kv k (Ab (Cn kv k+1))) (acc++[k]):=h.add (by rw [h k,BC (by omega) (by omega)])
   have:=Mb l h1 (by simp;omega)
   rw [List.append_assoc]at this
   exact this
theorem Ol {α:Type} {l:List α} {i:Nat} (h:i<l.length):l.take (i+1)=l.take i++[l[i]]:=by
 rw [List.take_succ_eq_append_getElem h]
theorem Om {ε ρ:Type} {l:List Int} {good:Int→Bool} {kv:List (Int×Int)} {B:Int×List (Int×Int)→Option ((Int×List (Int×Int))⊕(List (Int×Int)⊕List (Int×Int)))} (hn:l.length<9223372036854775807)
 (hB: ∀ (i:Nat) (h:i<l.length) kv,B ((i:Int),kv)=some (if(!good l[i])=true then .inr (.inr kv)else .inl (Ab ((i:Int)+1),GE kv l[i] (Ab (Cn kv l[i]+1)))))
 (hE: ∀ kv,B ((l.length:Int),kv)=some (.inr (.inl kv))):
 if l.all good=true then iter B FU (0,kv)=some (.inl (EM kv l))else ∃ r,iter B FU (0,kv)=some (.inr r):=by
 have:=nK (q:=fun i=>good (l.getD i default)) (B:=B) (fun i=>((i:Int),EM kv (l.take i))) (EM kv l) l.length hn (s0:=(0,kv)) (by simp [UU]) (fun i hi _=>by
  rw [hB i hi,GJ hi]
  cases hg:good l[i]
  ·rw [if_neg (by simp)]
   exact⟨_,rfl⟩
  ·rw [if_pos rfl,if_neg (by simp),Ol hi,WL,wrapS' (by omega)]
   rfl) (by
  rw [hE,List.take_length])
 rwa [Rt l good]at this
def Qv (l:List Bw):List Int:=(l.filter fun x=>x.Kind==1).map Bw.Id
theorem gg {l:List Bw} {i:Nat} (h:i<l.length):Qv (l.take (i+1))=Qv (l.take i)++(if(l[i].Kind ==1)=true then [l[i].Id]else []):=by
 unfold Qv
 rw [Ol h,List.filter_append,List.map_append]
 cases hk:l[i].Kind ==1<;>simp [hk]
theorem iS (l:List Bw):(Qv l).length ≤l.length:=by
 unfold Qv;rw [List.length_map];exact List.length_filter_le _ _
end Go.PL
