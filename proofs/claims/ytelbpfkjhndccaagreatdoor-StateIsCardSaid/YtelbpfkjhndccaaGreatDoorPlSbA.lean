/- Plain laws of states: maps that count; objects in lists. -/
import Derived.Test.YtelbpfkjhndccaaGreatDoorPlPktoPlPx
import Derived.Test.YtelbpfkjhndccaaGreatDoorPlOtoPlPj
namespace Go.PL
open Go
set_option linter.all false
def eq (kv:List (Int×Int)) (k:Int):Option Int:=(kv.find? fun p=>k==p.1).map (·.2)
theorem S5 (k:Int): ∀ (kv:List (Int×Int)) (n:Nat),(HP kv k n).map (·.2)=eq kv k
 | [],_=>rfl
 | p::l,n=>by
   have ih:=S5 k l (n+1)
   unfold HP eq
   rw [List.find?_cons]
   cases h:(k==p.1)
   ·simpa [eq] using ih
   ·simp
theorem Vs (kv:List (Int×Int)) (k:Int):Cv kv k=(eq kv k).getD 0:=by
 rw [←S5 k kv 0]
 unfold Cv
 cases HP kv k 0<;>rfl
theorem mU (kv:List (Int×Int)) (k x j:Int) (h:eq kv k=none):eq (kv++[(k,x)]) j=if j=k then some x else eq kv j:=by
 induction kv with
 | nil=>
   by_cases hj:j=k
   ·subst hj;simp [eq]
   ·simp [eq,hj]
 | cons p l ih=>
   unfold eq at h ih ⊢
   rw [List.find?_cons]at h
   rw [List.cons_append,List.find?_cons,List.find?_cons]
   cases hk:(k==p.1)
   ·rw [hk]at h
    have ih:=ih h
    cases hj:(j==p.1)
    ·simpa using ih
    ·have:j ≠ k:=by
      rintro rfl;rw [hk]at hj;cases hj
     simp [this]
   ·rw [hk]at h;simp at h
theorem mV (k x j v:Int): ∀ (kv:List (Int×Int)) (n i:Nat),HP kv k n=some (n+i,v)→eq (Wc kv i x) j=if j=k then some x else eq kv j
 | [],_,_,h=>by simp [HP]at h
 | p::l,n,i,h=>by
   unfold HP at h
   unfold Wc eq
   cases hk:(k==p.1)
   ·rw [hk,if_neg (by simp)]at h
    have hi:=(RQ h).1
    obtain⟨m,rfl⟩: ∃ m,i=m+1:=⟨i - 1,by omega⟩
    have ih:=mV k x j v l (n+1) m (by rw [h];congr 2;omega)
    unfold Wc eq at ih
    rw [List.modify_succ_cons,List.find?_cons,List.find?_cons]
    cases hj:(j==p.1)
    ·simpa using ih
    ·have:j ≠ k:=by
      rintro rfl;rw [hk]at hj;cases hj
     simp [this]
   ·rw [hk,if_pos rfl]at h
    simp only [Option.some.injEq,Prod.mk.injEq]at h
    obtain rfl:i=0:=by omega
    have hk:=beq_iff_eq.1 hk
    rw [List.modify_zero_cons,List.find?_cons,List.find?_cons]
    cases hj:(j==p.1)
    ·have:j ≠ k:=by
      rintro rfl;rw [hk]at hj;simp at hj
     simp [this]
    ·have hj:=beq_iff_eq.1 hj
     have:j=k:=by rw [hk,hj]
     simp [this]
theorem dv (kv:List (Int×Int)) (k x j:Int):Cv (HC kv k x) j=if j=k then x else Cv kv j:=by
 rw [Vs,Vs]
 unfold HC
 cases h:HP kv k 0 with
 | none=>
   have:eq kv k=none:=by rw [←S5 k kv 0,h];rfl
   dsimp only
   rw [mU kv k x j this]
   split<;>rfl
 | some q=>
   obtain⟨i,v⟩:=q
   dsimp only
   rw [mV k x j v kv 0 i (by rw [h,Nat.zero_add])]
   split<;>rfl
theorem mW (kv:List (Int×Int)) (k j:Int):Cv (qO kv k) j=Cv kv j:=by
 rw [Vs,Vs]
 unfold qO
 cases h:HP kv k 0 with
 | none=>
   have:eq kv k=none:=by rw [←S5 k kv 0,h];rfl
   dsimp only
   rw [mU kv k 0 j this]
   split
   ·rename_i hj;rw [hj,this];rfl
   ·rfl
 | some q=>rfl
def ar (kv:List (Int×Int)) (l:List Int):Prop:= ∀ k,Cv kv k=(l.count k:Int)
theorem ar.nil:ar [] []:=fun k=>rfl
theorem ar.add {kv:List (Int×Int)} {l:List Int} {k x:Int} (h:ar kv l) (hx:x=(l.count k:Int)+1):ar (HC kv k x) (l++[k]):=fun j=>by
 rw [dv,List.count_append,List.count_singleton]
 by_cases hj:j=k
 ·subst hj;rw [if_pos rfl,hx];simp
 ·rw [if_neg hj,h j]
  have:(k==j)=false:=by simp;exact fun q=>hj q.symm
  rw [this];simp
theorem ar.ent {kv:List (Int×Int)} {l:List Int} {k:Int} (h:ar kv l):ar (qO kv k) l:=fun j=>by rw [mW,h j]
theorem ar.same {kv kv':List (Int×Int)} {l:List Int} (h:ar kv l) (h': ∀ k,Cv kv' k=Cv kv k):ar kv' l:=fun j=>by rw [h',h j]
section
variable {α ρ:Type} {key:α→Int} {l:List α} {k:Int}
def R9 (key:α→Int) (l:List α):Prop:= ∀ (i j:Nat) (hi:i<j) (hj:j<l.length),key (l[i]'(by omega))<key l[j]
theorem oV {B:Int×Int→Option ((Int×Int)⊕ρ)} {r:Nat→ρ}
 (hs: ∀ (i j h:Nat) (hl:h<l.length),i<j→j≤l.length→h=(i+j) / 2→B ((i:Int),(j:Int))=some (.inl (if key l[h]<k then((h:Int)+1,(j:Int))else((i:Int),(h:Int)))))
 (he: ∀ i:Nat,i≤l.length→B ((i:Int),(i:Int))=some (.inr (r i))) (hr:R9 key l) (hn:l.length<9223372036854775807):
 ∃ i,i≤l.length∧iter B FU (0,(l.length:Int))=some (r i)∧(∀ (m:Nat) (h:m<l.length),m<i→key l[m]<k)∧(∀ (m:Nat) (h:m<l.length),i≤m→k≤key l[m]):=by
 have go: ∀ (d i j N:Nat),j - i≤d→i≤j→j≤l.length→d<N→(∀ (m:Nat) (h:m<l.length),m<i→key l[m]<k)→(∀ (m:Nat) (h:m<l.length),j≤m→k≤key l[m])→
  ∃ i',i'≤l.length∧iter B N ((i:Int),(j:Int))=some (r i')∧(∀ (m:Nat) (h:m<l.length),m<i'→key l[m]<k)∧(∀ (m:Nat) (h:m<l.length),i'≤m→k≤key l[m]):=by
  intro d
  induction d with
  | zero=>
    intro i j N h1 h2 h3 h4 h5 h6
    obtain⟨N,rfl⟩: ∃ M,N=M+1:=⟨N - 1,by omega⟩
    obtain rfl:i=j:=by omega
    exact⟨i,h3,DM (he i h3),h5,h6⟩
  | succ d ih=>
    intro i j N h1 h2 h3 h4 h5 h6
    obtain⟨N,rfl⟩: ∃ M,N=M+1:=⟨N - 1,by omega⟩
    by_cases hij:i=j
    ·subst hij
     exact⟨i,h3,DM (he i h3),h5,h6⟩
    have hlt:i<j:=by omega
    obtain⟨h,hh⟩: ∃ h,h=(i+j) / 2:=⟨_,rfl⟩
    have hl:h<l.length:=by omega
    have hB:=hs i j h hl hlt h3 hh
    rw [Ew hB]
    by_cases hk:key l[h]<k
    ·rw [if_pos hk]
     have:=ih (h+1) j N (by omega) (by omega) h3 (by omega) (fun m hm hmi=>by
      by_cases q:m=h
      ·subst q;exact hk
      ·by_cases q2:m<h
       ·have:=hr m h q2 hl;omega
       ·omega) h6
     rwa [show ((h+1:Nat):Int)=(h:Int)+1 by omega]at this
    ·rw [if_neg hk]
     exact ih i h N (by omega) (by omega) (by omega) (by omega) h5 (fun m hm hmi=>by
      by_cases q:m=h
      ·subst q;omega
      ·have:=hr h m (by omega) hm;omega)
 have:=go l.length 0 l.length FU (by omega) (by omega) (by omega) (by unfold FU;omega) (fun m h q=>by omega) (fun m h q=>by omega)
 simpa using this
theorem oW {i:Nat} (hi:i≤l.length) (h1: ∀ (m:Nat) (h:m<l.length),m<i→key l[m]<k) (h2: ∀ (m:Nat) (h:m<l.length),i≤m→k≤key l[m]) (hr:R9 key l):
 l.find? (fun o=>key o==k)=if h:i<l.length then(if key l[i]=k then some l[i]else none)else none:=by
 by_cases h:i<l.length
 ·rw [dif_pos h]
  by_cases hk:key l[i]=k
  ·rw [if_pos hk,List.find?_eq_some_iff_getElem]
   refine⟨by simpa using hk,i,h,rfl,fun j hj=>?_⟩
   have:=h1 j (by omega) hj
   simp;omega
  ·rw [if_neg hk,List.find?_eq_none]
   intro x hx
   obtain⟨m,hm,rfl⟩:=List.mem_iff_getElem.1 hx
   by_cases q:m<i
   ·have:=h1 m hm q;simp;omega
   ·by_cases q2:m=i
    ·subst q2;simpa using hk
    ·have:=h2 i h (by omega);have:=hr i m (by omega) hm;simp;omega
 ·rw [dif_neg h,List.find?_eq_none]
  intro x hx
  obtain⟨m,hm,rfl⟩:=List.mem_iff_getElem.1 hx
  have:=h1 m hm (by omega);simp;omega
theorem kh (hr:R9 key l) {o:α} (ho:o∈l):l.find? (fun x=>key x==key o)=some o:=by
 obtain⟨i,hi,rfl⟩:=List.mem_iff_getElem.1 ho
 rw [List.find?_eq_some_iff_getElem]
 refine⟨by simp,i,hi,rfl,fun j hj=>?_⟩
 have:=hr j i hj hi
 simp;omega
theorem QR {o:α} (h:l.find? (fun x=>key x==k)=some o):o∈l∧key o=k:=⟨List.mem_of_find?_eq_some h,by simpa using List.find?_some h⟩
end
section
variable {α π:Type} (key zone owner:α→Int) (os:List α)
def I1 (z w:Int) (l:List Int):Prop:= ∀ k∈l, ∃ o,os.find? (fun x=>key x==k)=some o∧zone o=z∧(0≤w→owner o=w)
variable {key zone owner os}
theorem I1.app {z w:Int} {l m:List Int} (h:I1 key zone owner os z w l) (h':I1 key zone owner os z w m):I1 key zone owner os z w (l++m):=fun k hk=>by
 rcases List.mem_append.1 hk with hk | hk
 ·exact h k hk
 ·exact h' k hk
theorem I1.nil {z w:Int}:I1 key zone owner os z w []:=fun k hk=>by cases hk
theorem I1.none {z w:Int} {l:List Int} {o:α} (h:I1 key zone owner os z w l) (hr:R9 key os) (ho:o∈os) (hz:zone o ≠ z∨(0≤w∧owner o ≠ w)):l.count (key o)=0:=by
 rw [List.count_eq_zero]
 intro hk
 obtain⟨o',h1,h2,h3⟩:=h _ hk
 rw [kh hr ho]at h1
 injection h1 with h1
 subst h1
 rcases hz with hz | ⟨hw,hz⟩
 ·exact hz h2
 ·exact hz (h3 hw)
variable (lib hand gr:π→List Int)
def N5:Nat→List π→List Int
 | _,[]=>[]
 | n,p::l=>lib p++hand p++gr p++N5 (n+1) l
theorem YO: ∀ (n:Nat) (l:List π) (p:π),N5 lib hand gr n (l++[p])=N5 lib hand gr n l++(lib p++hand p++gr p)
 | _,[],p=>by simp [N5]
 | n,a::l,p=>by
   rw [List.cons_append]
   unfold N5
   rw [YO (n+1) l p]
   simp only [List.append_assoc]
variable {lib hand gr}
theorem dw (hr:R9 key os) {o:α} (ho:o∈os): ∀ (l:List π) (n:Nat),(∀ (i:Nat) (h:i<l.length),I1 key zone owner os 2 ((n+i:Nat):Int) (lib l[i])∧I1 key zone owner os 1 ((n+i:Nat):Int) (hand l[i])∧I1 key zone owner os 3 ((n+i:Nat):Int) (gr l[i]))→
 (N5 lib hand gr n l).count (key o)=(match l[(owner o - n).toNat]? with
  | some p=>if n≤owner o then(if zone o=2 then(lib p).count (key o)else if zone o=1 then(hand p).count (key o)else if zone o=3 then(gr p).count (key o)else 0)else 0
  | none=>0)
 | [],n,_=>by simp [N5]
 | p::l,n,h=>by
   have ih:=dw hr ho l (n+1) (fun i hi=>by
    have:=h (i+1) (by simpa using hi)
    simp only [List.getElem_cons_succ]at this
    rwa [show n+(i+1)=n+1+i by omega]at this)
   obtain⟨h1,h2,h3⟩:=h 0 (by simp)
   simp only [List.getElem_cons_zero,Nat.add_zero]at h1 h2 h3
   unfold N5
   rw [List.count_append,List.count_append,List.count_append,ih]
   by_cases hw:owner o=n
   ·have e1:(owner o - (n:Int)).toNat =0:=by omega
    have e2: ¬((n+1:Nat):Int)≤owner o:=by omega
    rw [e1,List.getElem?_cons_zero]
    have e3:(match l[(owner o - ((n+1:Nat):Int)).toNat]? with
     | some p=>if((n+1:Nat):Int)≤owner o then(if zone o=2 then(lib p).count (key o)else if zone o=1 then(hand p).count (key o)else if zone o=3 then(gr p).count (key o)else 0)else 0
     | none=>0)=0:=by
     split
     ·rw [if_neg e2]
     ·rfl
    rw [e3]
    dsimp only
    rw [if_pos (by omega)]
    by_cases z2:zone o=2
    ·rw [if_pos z2,I1.none h2 hr ho (.inl (by omega)),I1.none h3 hr ho (.inl (by omega))];rfl
    ·rw [if_neg z2,I1.none h1 hr ho (.inl z2)]
     by_cases z1:zone o=1
     ·rw [if_pos z1,I1.none h3 hr ho (.inl (by omega))];omega
     ·rw [if_neg z1,I1.none h2 hr ho (.inl z1)]
      by_cases z3:zone o=3
      ·rw [if_pos z3];omega
      ·rw [if_neg z3,I1.none h3 hr ho (.inl z3)]
   ·rw [I1.none h1 hr ho (.inr ⟨by omega,hw⟩),I1.none h2 hr ho (.inr ⟨by omega,hw⟩),I1.none h3 hr ho (.inr ⟨by omega,hw⟩)]
    by_cases hn:(n:Int)≤owner o
    ·obtain⟨m,hm⟩: ∃ m:Nat,owner o=n+1+m:=⟨(owner o - n - 1).toNat,by omega⟩
     have e1:(owner o - (n:Int)).toNat =m+1:=by omega
     have e2:(owner o - ((n+1:Nat):Int)).toNat =m:=by omega
     rw [e1,e2,List.getElem?_cons_succ]
     have e3:((n+1:Nat):Int)≤owner o:=by omega
     simp only [hn,e3,if_true]
     omega
    ·have e3: ¬((n+1:Nat):Int)≤owner o:=by omega
     simp only [hn,e3,if_false]
     split<;>split<;>rfl
def Xf (key zone owner:α→Int) (lib hand gr:π→List Int) (bf ex sp:List Int) (ps:List π) (o:α):Nat:=
 if zone o=5 then sp.count (key o)else if zone o=0 then bf.count (key o)else if zone o=4 then ex.count (key o)else
  match ps[(owner o).toNat]? with
  | some p=>if 0≤owner o then(if zone o=2 then(lib p).count (key o)else if zone o=1 then(hand p).count (key o)else if zone o=3 then(gr p).count (key o)else 0)else 0
  | none=>0
structure Vt (key zone owner:α→Int) (lib hand gr:π→List Int) (os:List α) (bf ex sp:List Int) (ps:List π):Prop where
 bf:I1 key zone owner os 0 (-1) bf
 ex:I1 key zone owner os 4 (-1) ex
 sp:I1 key zone owner os 5 (-1) sp
 pl: ∀ (i:Nat) (h:i<ps.length),I1 key zone owner os 2 (i:Int) (lib ps[i])∧I1 key zone owner os 1 (i:Int) (hand ps[i])∧I1 key zone owner os 3 (i:Int) (gr ps[i])
variable {bf ex sp:List Int} {ps:List π}
theorem dx (hr:R9 key os) (hC:Vt key zone owner lib hand gr os bf ex sp ps) {o:α} (ho:o∈os):
 (bf++ex++N5 lib hand gr 0 ps++sp).count (key o)=Xf key zone owner lib hand gr bf ex sp ps o:=by
 have hp:=dw hr ho ps 0 (lib:=lib) (hand:=hand) (gr:=gr) (zone:=zone) (owner:=owner) (fun i h=>by
  rw [Nat.zero_add];exact hC.pl i h)
 rw [List.count_append,List.count_append,List.count_append,hp]
 unfold Xf
 simp only [Int.natCast_zero,Int.sub_zero]
 by_cases z5:zone o=5
 ·rw [if_pos z5,I1.none hC.bf hr ho (.inl (by omega)),I1.none hC.ex hr ho (.inl (by omega))]
  simp only [show ¬zone o=2 by omega,show ¬zone o=1 by omega,show ¬zone o=3 by omega,if_false,ite_self]
  split<;>omega
 ·rw [if_neg z5,I1.none hC.sp hr ho (.inl z5)]
  by_cases z0:zone o=0
  ·rw [if_pos z0,I1.none hC.ex hr ho (.inl (by omega))]
   simp only [show ¬zone o=2 by omega,show ¬zone o=1 by omega,show ¬zone o=3 by omega,if_false,ite_self]
   split<;>omega
  ·rw [if_neg z0,I1.none hC.bf hr ho (.inl z0)]
   by_cases z4:zone o=4
   ·rw [if_pos z4]
    simp only [show ¬zone o=2 by omega,show ¬zone o=1 by omega,show ¬zone o=3 by omega,if_false,ite_self]
    split<;>omega
   ·rw [if_neg z4,I1.none hC.ex hr ho (.inl z4)]
    omega
def sf (l:List Int):Prop:= ∀ k∈l,l.count k=1
theorem oX (hr:R9 key os) (hC:Vt key zone owner lib hand gr os bf ex sp ps) (h: ∀ o∈os,Xf key zone owner lib hand gr bf ex sp ps o=1):
 sf bf∧sf ex∧ ∀ (i:Nat) (h:i<ps.length),sf (lib ps[i])∧sf (hand ps[i])∧sf (gr ps[i]):=by
 refine⟨fun k hk=>?_,fun k hk=>?_,fun i hi=>⟨fun k hk=>?_,fun k hk=>?_,fun k hk=>?_⟩⟩
 ·obtain⟨o,h1,h2,h3⟩:=hC.bf k hk
  obtain⟨hm,rfl⟩:=QR h1
  have:=h o hm
  unfold Xf at this
  rwa [if_neg (by omega),if_pos h2]at this
 ·obtain⟨o,h1,h2,h3⟩:=hC.ex k hk
  obtain⟨hm,rfl⟩:=QR h1
  have:=h o hm
  unfold Xf at this
  rwa [if_neg (by omega),if_neg (by omega),if_pos h2]at this
 ·obtain⟨o,h1,h2,h3⟩:=(hC.pl i hi).1 k hk
  obtain⟨hm,rfl⟩:=QR h1
  have h3:=h3 (by omega)
  have:=h o hm
  unfold Xf at this
  rw [if_neg (by omega),if_neg (by omega),if_neg (by omega),h3,Int.toNat_natCast,List.getElem?_eq_getElem hi]at this
  dsimp only at this
  rwa [if_pos (by omega),if_pos h2]at this
 ·obtain⟨o,h1,h2,h3⟩:=(hC.pl i hi).2.1 k hk
  obtain⟨hm,rfl⟩:=QR h1
  have h3:=h3 (by omega)
  have:=h o hm
  unfold Xf at this
  rw [if_neg (by omega),if_neg (by omega),if_neg (by omega),h3,Int.toNat_natCast,List.getElem?_eq_getElem hi]at this
  dsimp only at this
  rwa [if_pos (by omega),if_neg (by omega),if_pos h2]at this
 ·obtain⟨o,h1,h2,h3⟩:=(hC.pl i hi).2.2 k hk
  obtain⟨hm,rfl⟩:=QR h1
  have h3:=h3 (by omega)
  have:=h o hm
  unfold Xf at this
  rw [if_neg (by omega),if_neg (by omega),if_neg (by omega),h3,Int.toNat_natCast,List.getElem?_eq_getElem hi]at this
  dsimp only at this
  rwa [if_pos (by omega),if_neg (by omega),if_neg (by omega),if_pos h2]at this
end
end Go.PL
