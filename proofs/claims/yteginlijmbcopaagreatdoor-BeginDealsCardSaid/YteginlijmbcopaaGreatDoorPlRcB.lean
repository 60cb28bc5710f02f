/- Plain laws: shuffles by both, lists compared with themselves. -/
import Derived.Test.YteginlijmbcopaaGreatDoorPlRcA
namespace Go.PL
open Go
set_option maxRecDepth 100000
set_option linter.all false
set_option maxHeartbeats 1000000
theorem nb {α:Type} {p:Prop} [Decidable p] (h:p) {f:Unit->Option α}:(A1 p).bind f=f ():=by rw [C5 h];rfl
theorem n9 {σ ρ:Type} {B:σ->Option (σ⊕ρ)} {s:σ} {r:ρ} (h:B s=some (.inr r)):iter B FU s=some r:=by show iter B (9223372036854775806+1) s=_;rw [A8 h]
theorem UO {l:List Int} (h:l.length<=1000):Ao l=some l:=if_pos (by grind [maxLen])
theorem below {s k:Int} (h1:1<=k) (h2:k<=1000): ∃ (j:Nat) (s2:Int),Hp s k=some ((j:Int),s2)/\(j:Int)<k:=by
 have hw:IntKind.u64.wrap k=k:=MD (by omega) (by omega);obtain⟨x,s2,hx,hb⟩: ∃ x s2,Uu s=some (x,s2)/\0<=x:=⟨_,_,rfl,(p9 _).1⟩;have ht:Int.tmod x k=((x.toNat % k.toNat:Nat):Int):=by grind
 have hlt:x.toNat % k.toNat<k.toNat:=Nat.mod_lt _ (by omega);refine⟨x.toNat % k.toNat,s2,?_,by omega⟩;unfold Hp;rw [if_neg (by simp;omega),hx];grind [nb,Ay]
theorem tA: ∀ (r N:Nat) {l:List Int} {s:Int},r<N->r<l.length->l.length<=900-> ∃ s2 l2,iter (fun(v:Int×Int×(List (Int)))=>Bj v.1 v.2.1 v.2.2) N (s,(r:Int),l)=some (s2,l2)/\l2.Perm l
 | 0,N+1,l,s,_,_,_=>⟨s,l,(by simp_all [A8,Bj]),List.Perm.refl _⟩
 | r+1,N+1,l,s,hN,hl,hm=>by
   obtain⟨j,s2,h1,h2⟩:=below (s:=s) (k:=((r+1:Nat):Int)+1) (by omega) (by omega);have hj:j<l.length:=by omega
   have hp:=List.set_set_perm hl hj;have hlen:((l.set (r+1) l[j]).set j l[r+1]).length =l.length:=by simp
   obtain⟨s3,l3,k1,k2⟩:=tA r N (l:=(l.set (r+1) l[j]).set j l[r+1]) (s:=s2) (by omega) (by grind) (by grind);refine⟨s3,l3,?_,k2.trans hp⟩;rw [BZ (s':=(s2,((r:Nat):Int),(l.set (r+1) l[j]).set j l[r+1]))]
   ·exact k1
   ·show Bj s ((r+1:Nat):Int) l=_;unfold Bj;rw [if_pos (by simp),Ay (by omega) (by omega),h1];simp only [Option.bind_some];rw [Al hj];simp only [Option.bind_some];rw [Al hl];grind [Al,Ay]
theorem Aje {l:List Int} {s:Int} (hm:l.length<=900): ∃ s2 l2,DI s l=some (l2,s2)/\l2.Perm l:=by
 unfold DI jn;rw [UO (by omega)];have key: ∃ s2 l2,iter (fun(v:Int×Int×(List (Int)))=>Bj v.1 v.2.1 v.2.2) FU (s,Ab ((l.length:Int) - (1:Int)),l)=some (s2,l2)/\l2.Perm l:=by
  rcases Nat.eq_zero_or_pos l.length with h | h
  ·refine⟨s,l,n9 ?_,List.Perm.refl _⟩;show Bj s (Ab ((l.length:Int) - 1)) l=_;simp_all [Bj,Ay]
  ·obtain⟨s2,l2,h1,h2⟩:=tA (l.length - 1) FU (l:=l) (s:=s) (by unfold FU;omega) (by omega) hm;grind [Ay]
 obtain⟨s2,l2,h1,h2⟩:=key;refine⟨s2,l2,?_,h2⟩;show (iter (fun(v:Int×Int×(List (Int)))=>Bj v.1 v.2.1 v.2.2) FU (s,Ab ((l.length:Int) - (1:Int)),l)).bind _=_;rw [h1];rfl
theorem shB (s i:Int) (l:List Int):Iq s i l=Bj s i l:=by
 have hg:decide (1<=i)=decide (0<i):=by grind
 have hb:UA s (Ab (i+1))=Hp s (Ab (i+1)):=rfl;unfold Iq Bj;rw [hg,hb];split
 ·cases Hp s (Ab (i+1))with
  | none=>rfl
  | some r=>
    simp only [Option.bind_some];grind [idx]
 ·rfl
theorem shR {l:List Int} (s:Int) (hl:l.length<=900):KH s l=DI s l:=by unfold KH DI;rw [UO (by omega),C5 (by unfold maxLen;omega)];simp only [Option.bind_some];rw [C5 (by simp)];simp only [Option.bind_some,funext fun(v:Int×Int×List Int)=>shB v.1 v.2.1 v.2.2];rfl
theorem Acq {β:Type} {B:Int->Option (Int⊕(Unit⊕β))} (n:Nat) (hn:n<9223372036854775807) (hB: ∀ i:Nat,i<n->B (i:Int)=some (.inl ((i:Int)+1))) (hE:B (n:Int)=some (.inr (.inl ()))):iter B FU 0=some (.inl ()):=
 Ch (fun i=>(i:Int)) n hn (by grind) hE rfl
theorem aX {l:List Int} (hl:l.length<9223372036854775807):Fn l l=some true:=by
 unfold Fn jn;rw [if_neg (by simp),Acq l.length hl (fun i hi=>by
  unfold Or;rw [if_pos (by simp only [bz];omega),Al hi,N_ (by omega)];simp) (by
  simp_all [Or])]
 rfl
def Ajf (p:Ap):Prop:=p.g_.length<9223372036854775807/\p.Hand.length<9223372036854775807/\p.AT.length<9223372036854775807
theorem AfS {p:Ap} (h:Ajf p):GB p p=some true:=by unfold GB;rw [aX h.1,aX h.2.1,aX h.2.2];simp [gd]
end Go.PL
