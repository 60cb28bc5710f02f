/- Plain laws of games that begin: decks checked, shuffled. -/
import Derived.Test.YteginlijmbcopaaGreatDoorPlCkX
namespace Go.PL
open Go
set_option maxRecDepth 100000
set_option linter.all false
set_option maxHeartbeats 1000000
theorem nb {α:Type} {p:Prop} [Decidable p] (h:p) {f:Unit->Option α}:(n_ p).bind f=f ():=by rw [Dx h];rfl
theorem ZA {σ ρ:Type} {B:σ->Option (σ⊕ρ)} {s:σ} {r:ρ} (h:B s=some (.inr r)):iter B FU s=some r:=by show iter B (9223372036854775806+1) s=_;rw [BD h]
theorem ZB {l:List Int} (h:l.length<=1000):Ap l=some l:=if_pos (by grind [maxLen])
theorem below {s k:Int} (h1:1<=k) (h2:k<=1000): ∃ (j:Nat) (s2:Int),Nk s k=some ((j:Int),s2)/\(j:Int)<k:=by
 have hw:IntKind.u64.wrap k=k:=M6 (by omega) (by omega);obtain⟨x,s2,hx,hb⟩: ∃ x s2,Ub s=some (x,s2)/\0<=x:=⟨_,_,rfl,(nX _).1⟩;have ht:Int.tmod x k=((x.toNat % k.toNat:Nat):Int):=by grind
 have hlt:x.toNat % k.toNat<k.toNat:=Nat.mod_lt _ (by omega);refine⟨x.toNat % k.toNat,s2,?_,by omega⟩;unfold Nk;rw [if_neg (by simp;omega),hx];grind [nb,Ao]
theorem qB: ∀ (r N:Nat) {l:List Int} {s:Int},r<N->r<l.length->l.length<=900-> ∃ s2 l2,iter (fun(v:Int×Int×(List (Int)))=>BM v.1 v.2.1 v.2.2) N (s,(r:Int),l)=some (s2,l2)/\l2.Perm l
 | 0,N+1,l,s,_,_,_=>⟨s,l,(by simp_all [BD,BM]),List.Perm.refl _⟩
 | r+1,N+1,l,s,hN,hl,hm=>by
   obtain⟨j,s2,h1,h2⟩:=below (s:=s) (k:=((r+1:Nat):Int)+1) (by omega) (by omega);have hj:j<l.length:=by omega
   have hp:=List.set_set_perm hl hj;have hlen:((l.set (r+1) l[j]).set j l[r+1]).length =l.length:=by simp
   obtain⟨s3,l3,k1,k2⟩:=qB r N (l:=(l.set (r+1) l[j]).set j l[r+1]) (s:=s2) (by omega) (by grind) (by grind);refine⟨s3,l3,?_,k2.trans hp⟩;rw [Cc (s':=(s2,((r:Nat):Int),(l.set (r+1) l[j]).set j l[r+1]))]
   ·exact k1
   ·show BM s ((r+1:Nat):Int) l=_;unfold BM;rw [if_pos (by simp),Ao (by omega) (by omega),h1];simp only [Option.bind_some];rw [AD hj];simp only [Option.bind_some];rw [AD hl];grind [AD,Ao]
theorem Aap {l:List Int} {s:Int} (hm:l.length<=900): ∃ s2 l2,DT s l=some (l2,s2)/\l2.Perm l:=by
 unfold DT jn;rw [ZB (by omega)];have key: ∃ s2 l2,iter (fun(v:Int×Int×(List (Int)))=>BM v.1 v.2.1 v.2.2) FU (s,Ac ((l.length:Int) - (1:Int)),l)=some (s2,l2)/\l2.Perm l:=by
  rcases Nat.eq_zero_or_pos l.length with h | h
  ·refine⟨s,l,ZA ?_,List.Perm.refl _⟩;show BM s (Ac ((l.length:Int) - 1)) l=_;simp_all [BM,Ao]
  ·obtain⟨s2,l2,h1,h2⟩:=qB (l.length - 1) FU (l:=l) (s:=s) (by unfold FU;omega) (by omega) hm;grind [Ao]
 obtain⟨s2,l2,h1,h2⟩:=key;refine⟨s2,l2,?_,h2⟩;show (iter (fun(v:Int×Int×(List (Int)))=>BM v.1 v.2.1 v.2.2) FU (s,Ac ((l.length:Int) - (1:Int)),l)).bind _=_;rw [h1];rfl
def Wh (c:Az) (n:Int):Bool:=decide (n<0)||(decide ((c.C_.length:Int)<=n)||(c.C_.getD n.toNat default).Token)
def w7 (d:List Int):Bool:=decide (250<d.length)
def qC (c:Az):Bool:=decide (2<=c.h_.length/\c.h_.length<=4/\0<=c.Td/\c.Td<c.h_.length)
def bj (c:Az):Int:=if(Ns c.C_).2 ≠ 0 then(Ns c.C_).2 else if qC c=false then 1 else if c.h_.any w7=true then 5 else if(c.h_.any fun d=>d.any (Wh c)) then 2 else 0
theorem Ahj (c:Az) (n:Int) {g:Bool} (hg:g= !(decide (n<0)||decide ((c.C_.length:Int)<=n))): ∃ e,gd g (idx c.C_ n)=some e/\(decide (n<0)||(decide ((c.C_.length:Int)<=n)||e.Token))=Wh c n:=by
 unfold Wh;by_cases h:0<=n/\n<c.C_.length
 ·refine⟨c.C_.getD n.toNat default,?_,rfl⟩;rw [hg,decide_eq_false (by omega),decide_eq_false (by omega)];exact RV h
 ·have h2:(decide (n<0)||decide ((c.C_.length:Int)<=n))=true:=by simp;omega
  refine⟨default,by rw [hg,h2];rfl,?_⟩;grind
theorem Afs {γ:Type} (c:Az) (d:List Int) (hd:d.length<9223372036854775807) {K:Option γ} {f:Int->Option γ}:(iter (fun(v:Int)=>D3 c d v) FU (0:Int)).bind (Sum.elim (fun _=>K) f)=if d.any (Wh c)=true then f 2 else K:=
 w4 (p:=Wh c) hd (fun i hi=>by
  obtain⟨e,h1,h2⟩:=Ahj c d[i] (g:=(decide (d[i]<0)||decide ((c.C_.length:Int)<=d[i]))==false) (bF _);show D3 c d (i:Int)=_;unfold D3;rw [if_pos (by simp only [bz];omega),AD hi,abT (by omega)];grind) (by
  simp_all [D3])
def w8 (c:Az):Prop:=Abd c.C_/\ ∀ d∈c.h_,d.length<9223372036854775807
theorem w9 {c:Az} (hc:w8 c):Lz c=some (bj c):=by
 simp only [Lz,OV,OU,jn,Aao hc.1,Option.bind_some];unfold bj;by_cases h0:(Ns c.C_).2=0
 ·rw [if_neg (show ¬(Ns c.C_).2 ≠ 0 by simp [h0]),show ((Ns c.C_).2 != 0)=false by simp [h0]];simp only [Bool.false_eq_true,if_false];by_cases h1:2<=c.h_.length/\c.h_.length<=4/\0<=c.Td/\c.Td<c.h_.length
  ·have hh:qC c=true:=decide_eq_true h1;rw [if_neg (by simp only [bz];omega),hh];simp only [Bool.true_eq_false,if_false];rw [w4 (l:=c.h_) (p:=w7) (c:=(5:Int)) (B:=fun v=>D5 c v) (by omega) (fun i hi=>by
    show D5 c (i:Int)=_;unfold D5 w7;rw [if_pos (by simp only [bz];omega),AD hi,abT (by omega)];grind) (by
    simp_all [D5])]
   rw [w4 (l:=c.h_) (p:=fun d=>d.any (Wh c)) (c:=(2:Int)) (B:=fun v=>D4 c v) (by omega) (fun i hi=>by
    show D4 c (i:Int)=_;simp only [D4,NU,jn];rw [if_pos (by simp only [bz];omega),AD hi,abT (by omega)];simp only [Option.bind_some];rw [Afs c _ (hc.2 _ (List.getElem_mem hi))];grind) (by
    simp_all [D4])]
   grind
  ·have hh:qC c=false:=decide_eq_false h1;grind
 grind
end Go.PL
