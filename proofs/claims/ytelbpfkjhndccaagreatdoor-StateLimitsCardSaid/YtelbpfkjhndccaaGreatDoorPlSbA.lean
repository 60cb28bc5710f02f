/- Plain laws of states: maps that count; objects in lists. -/
import Derived.Test.YtelbpfkjhndccaaGreatDoorPlPktoPlPx
import Derived.Test.YtelbpfkjhndccaaGreatDoorPlOtoPlPj
namespace Go.PL
open Go
set_option linter.all false
def ZL (kv:List (Int×Int)) (k:Int):Option Int:=(kv.find? fun p=>k==p.1).map (·.2)
theorem Qt (k:Int): ∀ (kv:List (Int×Int)) (n:Nat),(GV kv k n).map (·.2)=ZL kv k
 | [],_=>rfl
 | p::l,n=>by
   have ih:=Qt k l (n+1)
   unfold GV ZL
   rw [List.find?_cons]
   cases h:(k==p.1)
   ·simpa [ZL] using ih
   ·simp
theorem Ta (kv:List (Int×Int)) (k:Int):Cn kv k=(ZL kv k).getD 0:=by
 rw [←Qt k kv 0]
 unfold Cn
 cases GV kv k 0<;>rfl
theorem gc (kv:List (Int×Int)) (k x j:Int) (h:ZL kv k=none):ZL (kv++[(k,x)]) j=if j=k then some x else ZL kv j:=by
 induction kv with
 | nil=>
   by_cases hj:j=k
   ·subst hj;simp [ZL]
   ·simp [ZL,hj]
 | cons p l ih=>
   unfold ZL at h ih ⊢
   rw [List.find?_cons]at h
   rw [List.cons_append,List.find?_cons,List.find?_cons]
   cases hk:(k==p.1)
   ·rw [hk]at h
    have ih:=ih h
    cases hj:(j==p.1)
    ·simpa using ih
    ·have:j ≠ k:=by
      rintro rfl;rw [hk]at hj;cases hj
     simp [this]
   ·rw [hk]at h;simp at h
theorem ge (k x j v:Int): ∀ (kv:List (Int×Int)) (n i:Nat),GV kv k n=some (n+i,v)→ZL (TX kv i x) j=if j=k then some x else ZL kv j
 | [],_,_,h=>by simp [GV]at h
 | p::l,n,i,h=>by
   unfold GV at h
   unfold TX ZL
   cases hk:(k==p.1)
   ·rw [hk,if_neg (by simp)]at h
    have hi:=(O2 h).1
    obtain⟨m,rfl⟩: ∃ m,i=m+1:=⟨i - 1,by omega⟩
    have ih:=ge k x j v l (n+1) m (by rw [h];congr 2;omega)
    unfold TX ZL at ih
    rw [List.modify_succ_cons,List.find?_cons,List.find?_cons]
    cases hj:(j==p.1)
    ·simpa using ih
    ·have:j ≠ k:=by
      rintro rfl;rw [hk]at hj;cases hj
     simp [this]
   ·rw [hk,if_pos rfl]at h
    simp only [Option.some.injEq,Prod.mk.injEq]at h
    obtain rfl:i=0:=by omega
    have hk:=beq_iff_eq.1 hk
    rw [List.modify_zero_cons,List.find?_cons,List.find?_cons]
    cases hj:(j==p.1)
    ·have:j ≠ k:=by
      rintro rfl;rw [hk]at hj;simp at hj
     simp [this]
    ·have hj:=beq_iff_eq.1 hj
     have:j=k:=by rw [hk,hj]
     simp [this]
theorem ZC (kv:List (Int×Int)) (k x j:Int):Cn (GE kv k x) j=if j=k then x else Cn kv j:=by
 rw [Ta,Ta]
 unfold GE
 cases h:GV kv k 0 with
 | none=>
   have:ZL kv k=none:=by rw [←Qt k kv 0,h];rfl
   dsimp only
   rw [gc kv k x j this]
   split<;>rfl
 | some q=>
   obtain⟨i,v⟩:=q
   dsimp only
   rw [ge k x j v kv 0 i (by rw [h,Nat.zero_add])]
   split<;>rfl
theorem gf (kv:List (Int×Int)) (k j:Int):Cn (ky kv k) j=Cn kv j:=by
 rw [Ta,Ta]
 unfold ky
 cases h:GV kv k 0 with
 | none=>
   have:ZL kv k=none:=by rw [←Qt k kv 0,h];rfl
   dsimp only
   rw [gc kv k 0 j this]
   split
   ·rename_i hj;rw [hj,this];rfl
   ·rfl
 | some q=>rfl
def X1 (kv:List (Int×Int)) (l:List Int):Prop:= ∀ k,Cn kv k=(l.count k:Int)
theorem X1.nil:X1 [] []:=fun k=>rfl
theorem X1.add {kv:List (Int×Int)} {l:List Int} {k x:Int} (h:X1 kv l) (hx:x=(l.count k:Int)+1):X1 (GE kv k x) (l++[k]):=fun j=>by
 rw [ZC,List.count_append,List.count_singleton]
 by_cases hj:j=k
 ·subst hj;rw [if_pos rfl,hx];simp
 ·rw [if_neg hj,h j]
  have:(k==j)=false:=by simp;exact fun q=>hj q.symm
  rw [this];simp
theorem X1.ent {kv:List (Int×Int)} {l:List Int} {k:Int} (h:X1 kv l):X1 (ky kv k) l:=fun j=>by rw [gf,h j]
theorem X1.same {kv kv':List (Int×Int)} {l:List Int} (h:X1 kv l) (h': ∀ k,Cn kv' k=Cn kv k):X1 kv' l:=fun j=>by rw [h',h j]
section
variable {α ρ:Type} {key:α→Int} {l:List α} {k:Int}
def Ss (key:α→Int) (l:List α):Prop:= ∀ (i j:Nat) (hi:i<j) (hj:j<l.length),key (l[i]'(by omega))<key l[j]
theorem iP {B:Int×Int→Option ((Int×Int)⊕ρ)} {r:Nat→ρ}
 (hs: ∀ (i j h:Nat) (hl:h<l.length),i<j→j≤l.length→h=(i+j) / 2→B ((i:Int),(j:Int))=some (.inl (if key l[h]<k then((h:Int)+1,(j:Int))else((i:Int),(h:Int)))))
 (he: ∀ i:Nat,i≤l.length→B ((i:Int),(i:Int))=some (.inr (r i))) (hr:Ss key l) (hn:l.length<9223372036854775807):
 ∃ i,i≤l.length∧iter B FU (0,(l.length:Int))=some (r i)∧(∀ (m:Nat) (h:m<l.length),m<i→key l[m]<k)∧(∀ (m:Nat) (h:m<l.length),i≤m→k≤key l[m]):=by
 have go: ∀ (d i j N:Nat),j - i≤d→i≤j→j≤l.length→d<N→(∀ (m:Nat) (h:m<l.length),m<i→key l[m]<k)→(∀ (m:Nat) (h:m<l.length),j≤m→k≤key l[m])→
  ∃ i',i'≤l.length∧iter B N ((i:Int),(j:Int))=some (r i')∧(∀ (m:Nat) (h:m<l.length),m<i'→key l[m]<k)∧(∀ (m:Nat) (h:m<l.length),i'≤m→k≤key l[m]):=by
  intro d
  induction d with
  | zero=>
    intro i j N h1 h2 h3 h4 h5 h6
    obtain⟨N,rfl⟩: ∃ M,N=M+1:=⟨N - 1,by omega⟩
    obtain rfl:i=j:=by omega
    exact⟨i,h3,DU (he i h3),h5,h6⟩
  | succ d ih=>
    intro i j N h1 h2 h3 h4 h5 h6
    obtain⟨N,rfl⟩: ∃ M,N=M+1:=⟨N - 1,by omega⟩
    by_cases hij:i=j
    ·subst hij
     exact⟨i,h3,DU (he i h3),h5,h6⟩
    have hlt:i<j:=by omega
    obtain⟨h,hh⟩: ∃ h,h=(i+j) / 2:=⟨_,rfl⟩
    have hl:h<l.length:=by omega
    have hB:=hs i j h hl hlt h3 hh
    rw [Eh hB]
    by_cases hk:key l[h]<k
    ·rw [if_pos hk]
     have:=ih (h+1) j N (by omega) (by omega) h3 (by omega) (fun m hm hmi=>by
      by_cases q:m=h
      ·subst q;exact hk
      ·by_cases q2:m<h
       ·have:=hr m h q2 hl;omega
       ·omega) h6
     rwa [show ((h+1:Nat):Int)=(h:Int)+1 by omega]at this
    ·rw [if_neg hk]
     exact ih i h N (by omega) (by omega) (by omega) (by omega) h5 (fun m hm hmi=>by
      by_cases q:m=h
      ·subst q;omega
      ·have:=hr h m (by omega) hm;omega)
 have:=go l.length 0 l.length FU (by omega) (by omega) (by omega) (by unfold FU;omega) (fun m h q=>by omega) (fun m h q=>by omega)
 simpa using this
theorem iQ {i:Nat} (hi:i≤l.length) (h1: ∀ (m:Nat) (h:m<l.length),m<i→key l[m]<k) (h2: ∀ (m:Nat) (h:m<l.length),i≤m→k≤key l[m]) (hr:Ss key l):
 l.find? (fun o=>key o==k)=if h:i<l.length then(if key l[i]=k then some l[i]else none)else none:=by
 by_cases h:i<l.length
 ·rw [dif_pos h]
  by_cases hk:key l[i]=k
  ·rw [if_pos hk,List.find?_eq_some_iff_getElem]
   refine⟨by simpa using hk,i,h,rfl,fun j hj=>?_⟩
   have:=h1 j (by omega) hj
   simp;omega
  ·rw [if_neg hk,List.find?_eq_none]
   intro x hx
   obtain⟨m,hm,rfl⟩:=List.mem_iff_getElem.1 hx
   by_cases q:m<i
   ·have:=h1 m hm q;simp;omega
   ·by_cases q2:m=i
    ·subst q2;simpa using hk
    ·have:=h2 i h (by omega);have:=hr i m (by omega) hm;simp;omega
 ·rw [dif_neg h,List.find?_eq_none]
  intro x hx
  obtain⟨m,hm,rfl⟩:=List.mem_iff_getElem.1 hx
  have:=h1 m hm (by omega);simp;omega
theorem WJ (hr:Ss key l) {o:α} (ho:o∈l):l.find? (fun x=>key x==key o)=some o:=by
 obtain⟨i,hi,rfl⟩:=List.mem_iff_getElem.1 ho
 rw [List.find?_eq_some_iff_getElem]
 refine⟨by simp,i,hi,rfl,fun j hj=>?_⟩
 have:=hr j i hj hi
 simp;omega
end
section
variable {α π:Type} (key zone owner:α→Int) (os:List α)
def ZD (z w:Int) (l:List Int):Prop:= ∀ k∈l, ∃ o,os.find? (fun x=>key x==k)=some o∧zone o=z∧(0≤w→owner o=w)
variable {key zone owner os}
theorem ZD.app {z w:Int} {l m:List Int} (h:ZD key zone owner os z w l) (h':ZD key zone owner os z w m):ZD key zone owner os z w (l++m):=fun k hk=>by
 rcases List.mem_append.1 hk with hk | hk
 ·exact h k hk
 ·exact h' k hk
theorem ZD.nil {z w:Int}:ZD key zone owner os z w []:=fun k hk=>by cases hk
theorem ZD.none {z w:Int} {l:List Int} {o:α} (h:ZD key zone owner os z w l) (hr:Ss key os) (ho:o∈os) (hz:zone o ≠ z∨(0≤w∧owner o ≠ w)):l.count (key o)=0:=by
 rw [List.count_eq_zero]
 intro hk
 obtain⟨o',h1,h2,h3⟩:=h _ hk
 rw [WJ hr ho]at h1
 injection h1 with h1
 subst h1
 rcases hz with hz | ⟨hw,hz⟩
 ·exact hz h2
 ·exact hz (h3 hw)
variable (lib hand gr:π→List Int)
def NY:Nat→List π→List Int
 | _,[]=>[]
 | n,p::l=>lib p++hand p++gr p++NY (n+1) l
theorem WK: ∀ (n:Nat) (l:List π) (p:π),NY lib hand gr n (l++[p])=NY lib hand gr n l++(lib p++hand p++gr p)
 | _,[],p=>by simp [NY]
 | n,a::l,p=>by
   rw [List.cons_append]
   unfold NY
   rw [WK (n+1) l p]
   simp only [List.append_assoc]
variable {lib hand gr}
variable {bf ex sp:List Int} {ps:List π}
end
end Go.PL
