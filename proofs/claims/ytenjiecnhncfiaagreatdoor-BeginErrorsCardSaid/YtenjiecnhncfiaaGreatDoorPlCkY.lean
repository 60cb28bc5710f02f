/- Plain laws of games that begin: decks checked, shuffled. -/
import Derived.Test.YtenjiecnhncfiaaGreatDoorPlCkX
namespace Go.PL
open Go
set_option maxRecDepth 100000
set_option linter.all false
set_option maxHeartbeats 1000000
theorem nb {α:Type} {p:Prop} [Decidable p] (h:p) {f:Unit->Option α}:(n_ p).bind f=f ():=by rw [Hq h];rfl
theorem AgI {σ ρ:Type} {B:σ->Option (σ⊕ρ)} {s:σ} {r:ρ} (h:B s=some (.inr r)):iter B FU s=some r:=by show iter B (9223372036854775806+1) s=_;rw [Cr h]
theorem Ae3 {l:List Int} (h:l.length<=1000):Az l=some l:=if_pos ⟨by omega,by unfold maxLen;omega⟩
theorem below {s k:Int} (h1:1<=k) (h2:k<=1000): ∃ (j:Nat) (s2:Int),NE s k=some ((j:Int),s2)/\(j:Int)<k:=by
 have hw:IntKind.u64.wrap k=k:=Nb (by omega) (by omega);obtain⟨x,s2,hx,hb⟩: ∃ x s2,VD s=some (x,s2)/\0<=x:=⟨_,_,rfl,(qj _).1⟩;have ht:Int.tmod x k=((x.toNat % k.toNat:Nat):Int):=by rw [Int.tmod_eq_emod_of_nonneg hb];rw [Int.natCast_emod,Int.toNat_of_nonneg hb,Int.toNat_of_nonneg (by omega)]
 have hlt:x.toNat % k.toNat<k.toNat:=Nat.mod_lt _ (by omega);refine⟨x.toNat % k.toNat,s2,?_,by omega⟩;unfold NE;rw [if_neg (by simp;omega),hx];simp only [Option.bind_some];rw [hw];refine(nb (by omega)).trans ?_;rw [ht,AU (by omega) (by omega)]
theorem tl: ∀ (r N:Nat) {l:List Int} {s:Int},r<N->r<l.length->l.length<=900-> ∃ s2 l2,iter (fun(v:Int×Int×(List (Int)))=>Bx v.1 v.2.1 v.2.2) N (s,(r:Int),l)=some (s2,l2)/\l2.Perm l
 | 0,N+1,l,s,_,_,_=>⟨s,l,Cr (by
  show Bx s ((0:Nat):Int) l=_;unfold Bx;rw [if_neg (by simp)]),List.Perm.refl _⟩
 | r+1,N+1,l,s,hN,hl,hm=>by
   obtain⟨j,s2,h1,h2⟩:=below (s:=s) (k:=((r+1:Nat):Int)+1) (by omega) (by omega);have hj:j<l.length:=by omega
   have hp:=List.set_set_perm hl hj;have hlen:((l.set (r+1) l[j]).set j l[r+1]).length =l.length:=by simp
   obtain⟨s3,l3,k1,k2⟩:=tl r N (l:=(l.set (r+1) l[j]).set j l[r+1]) (s:=s2) (by omega) (by rw [hlen];omega) (by rw [hlen];exact hm);refine⟨s3,l3,?_,k2.trans hp⟩;rw [CH (s':=(s2,((r:Nat):Int),(l.set (r+1) l[j]).set j l[r+1]))]
   ·exact k1
   ·show Bx s ((r+1:Nat):Int) l=_;unfold Bx;rw [if_pos (by simp),AU (by omega) (by omega),h1];simp only [Option.bind_some];rw [BY hj];simp only [Option.bind_some];rw [BY hl];simp only [Option.bind_some];rw [BY (by simp;exact hj)];simp only [Option.bind_some,Int.toNat_natCast];rw [AU (by omega) (by omega)];congr 3;congr 1;omega
theorem AgJ {l:List Int} {s:Int} (hm:l.length<=900): ∃ s2 l2,DL s l=some (l2,s2)/\l2.Perm l:=by
 unfold DL jn;rw [Ae3 (by omega)];have key: ∃ s2 l2,iter (fun(v:Int×Int×(List (Int)))=>Bx v.1 v.2.1 v.2.2) FU (s,Ad ((l.length:Int) - (1:Int)),l)=some (s2,l2)/\l2.Perm l:=by
  rcases Nat.eq_zero_or_pos l.length with h | h
  ·refine⟨s,l,AgI ?_,List.Perm.refl _⟩;show Bx s (Ad ((l.length:Int) - 1)) l=_;unfold Bx;rw [if_neg (by rw [AU (by omega) (by omega)];simp;omega)]
  ·obtain⟨s2,l2,h1,h2⟩:=tl (l.length - 1) FU (l:=l) (s:=s) (by unfold FU;omega) (by omega) hm;refine⟨s2,l2,?_,h2⟩;rw [AU (by omega) (by omega),show (l.length:Int) - 1=((l.length - 1:Nat):Int) by omega,h1]
 obtain⟨s2,l2,h1,h2⟩:=key;refine⟨s2,l2,?_,h2⟩;show (iter (fun(v:Int×Int×(List (Int)))=>Bx v.1 v.2.1 v.2.2) FU (s,Ad ((l.length:Int) - (1:Int)),l)).bind _=_;rw [h1];rfl
def Oq (c:AH) (n:Int):Bool:=decide (n<0)||(decide ((c.aak.length:Int)<=n)||(c.aak.getD n.toNat default).Token)
def Ut (d:List Int):Bool:=decide (250<d.length)
def cV (c:AH):Bool:=decide (2<=c.l_.length/\c.l_.length<=4/\0<=c.aaO/\c.aaO<c.l_.length)
def og (c:AH):Int:=if(G4 c.aak).2 ≠ 0 then(G4 c.aak).2 else if cV c=false then 1 else if c.l_.any Ut=true then 5 else if(c.l_.any fun d=>d.any (Oq c)) then 2 else 0
theorem AgK (c:AH) (n:Int) {g:Bool} (hg:g= !(decide (n<0)||decide ((c.aak.length:Int)<=n))): ∃ e,gd g (idx c.aak n)=some e/\(decide (n<0)||(decide ((c.aak.length:Int)<=n)||e.Token))=Oq c n:=by
 unfold Oq;by_cases h:0<=n/\n<c.aak.length
 ·refine⟨c.aak.getD n.toNat default,?_,rfl⟩;rw [hg,decide_eq_false (by omega),decide_eq_false (by omega)];exact SP h
 ·have h2:(decide (n<0)||decide ((c.aak.length:Int)<=n))=true:=by simp;omega
  refine⟨default,by rw [hg,h2];rfl,?_⟩;rw [<-Bool.or_assoc, <-Bool.or_assoc,h2];rfl
theorem AgL {γ:Type} (c:AH) (d:List Int) (hd:d.length<9223372036854775807) {K:Option γ} {f:Int->Option γ}:(iter (fun(v:Int)=>C6 c d v) FU (0:Int)).bind (Sum.elim (fun _=>K) f)=if d.any (Oq c)=true then f 2 else K:=
 oe (p:=Oq c) hd (fun i hi=>by
  obtain⟨e,h1,h2⟩:=AgK c d[i] (g:=(decide (d[i]<0)||decide ((c.aak.length:Int)<=d[i]))==false) (bF _);show C6 c d (i:Int)=_;unfold C6;rw [if_pos (by simp only [bz];omega),BY hi,aal (by omega)];simp only [Option.bind_some,SR];rw [h1];simp only [Option.bind_some,Bool.or_assoc,h2];cases Oq c d[i]<;>rfl) (by
  show C6 c d _=_;unfold C6;rw [if_neg (by simp only [bz];omega)])
def AbT (c:AH):Prop:=y8 c.aak/\ ∀ d∈c.l_,d.length<9223372036854775807
theorem Ae4 {c:AH} (hc:AbT c):Ln c=some (og c):=by
 simp only [Ln,PD,PB,jn,AbS hc.1,Option.bind_some];unfold og;by_cases h0:(G4 c.aak).2=0
 ·rw [if_neg (show ¬(G4 c.aak).2 ≠ 0 by simp [h0]),show ((G4 c.aak).2 != 0)=false by simp [h0]];simp only [Bool.false_eq_true,if_false];by_cases h1:2<=c.l_.length/\c.l_.length<=4/\0<=c.aaO/\c.aaO<c.l_.length
  ·have hh:cV c=true:=decide_eq_true h1;rw [if_neg (by simp only [bz];omega),hh];simp only [Bool.true_eq_false,if_false];rw [oe (l:=c.l_) (p:=Ut) (c:=(5:Int)) (B:=fun v=>C8 c v) (by omega) (fun i hi=>by
    show C8 c (i:Int)=_;unfold C8 Ut;rw [if_pos (by simp only [bz];omega),BY hi,aal (by omega)];simp only [Option.bind_some,decide_eq_true_eq];by_cases q:250<c.l_[i].length
    ·rw [if_pos (by omega),if_pos q]
    ·rw [if_neg (by omega),if_neg q]) (by
    show C8 c _=_;unfold C8;rw [if_neg (by simp only [bz];omega)])]
   rw [oe (l:=c.l_) (p:=fun d=>d.any (Oq c)) (c:=(2:Int)) (B:=fun v=>C7 c v) (by omega) (fun i hi=>by
    show C7 c (i:Int)=_;simp only [C7,Oj,jn];rw [if_pos (by simp only [bz];omega),BY hi,aal (by omega)];simp only [Option.bind_some];rw [AgL c _ (hc.2 _ (List.getElem_mem hi))];cases c.l_[i].any (Oq c)<;>rfl) (by
    show C7 c _=_;unfold C7;rw [if_neg (by simp only [bz];omega)])]
   cases c.l_.any Ut<;>cases (c.l_.any fun d=>d.any (Oq c))<;>rfl
  ·have hh:cV c=false:=decide_eq_false h1;rw [if_pos (by simp only [bz];omega),hh,if_pos rfl]
 ·rw [if_pos (by simpa using h0),if_pos h0]
end Go.PL
