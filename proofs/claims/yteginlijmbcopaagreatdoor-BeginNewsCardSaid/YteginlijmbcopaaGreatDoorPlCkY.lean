/- Plain laws of games that begin: decks checked, shuffled. -/
import Derived.Test.YteginlijmbcopaaGreatDoorPlCkX
namespace Go.PL
open Go
set_option maxRecDepth 100000
set_option linter.all false
set_option maxHeartbeats 1000000
theorem nb {α:Type} {p:Prop} [Decidable p] (h:p) {f:Unit->Option α}:(k_ p).bind f=f ():=by rw [EY h];rfl
theorem uX {σ ρ:Type} {B:σ->Option (σ⊕ρ)} {s:σ} {r:ρ} (h:B s=some (.inr r)):iter B FU s=some r:=by show iter B (9223372036854775806+1) s=_;rw [Cu h]
theorem AaU {l:List Int} (h:l.length<=1000):Ay l=some l:=if_pos (by grind [maxLen])
theorem below {s k:Int} (h1:1<=k) (h2:k<=1000): ∃ (j:Nat) (s2:Int),HK s k=some ((j:Int),s2)/\(j:Int)<k:=by
 have hw:IntKind.u64.wrap k=k:=Nl (by omega) (by omega);obtain⟨x,s2,hx,hb⟩: ∃ x s2,VQ s=some (x,s2)/\0<=x:=⟨_,_,rfl,(rQ _).1⟩;have ht:Int.tmod x k=((x.toNat % k.toNat:Nat):Int):=by grind
 have hlt:x.toNat % k.toNat<k.toNat:=Nat.mod_lt _ (by omega);refine⟨x.toNat % k.toNat,s2,?_,by omega⟩;unfold HK;rw [if_neg (by simp;omega),hx];grind [nb,A7]
theorem uY: ∀ (r N:Nat) {l:List Int} {s:Int},r<N->r<l.length->l.length<=900-> ∃ s2 l2,iter (fun(v:Int×Int×(List (Int)))=>Bl v.1 v.2.1 v.2.2) N (s,(r:Int),l)=some (s2,l2)/\l2.Perm l
 | 0,N+1,l,s,_,_,_=>⟨s,l,(by simp_all [Cu,Bl]),List.Perm.refl _⟩
 | r+1,N+1,l,s,hN,hl,hm=>by
   obtain⟨j,s2,h1,h2⟩:=below (s:=s) (k:=((r+1:Nat):Int)+1) (by omega) (by omega);have hj:j<l.length:=by omega
   have hp:=List.set_set_perm hl hj;have hlen:((l.set (r+1) l[j]).set j l[r+1]).length =l.length:=by simp
   obtain⟨s3,l3,k1,k2⟩:=uY r N (l:=(l.set (r+1) l[j]).set j l[r+1]) (s:=s2) (by omega) (by grind) (by grind);refine⟨s3,l3,?_,k2.trans hp⟩;rw [CM (s':=(s2,((r:Nat):Int),(l.set (r+1) l[j]).set j l[r+1]))]
   ·exact k1
   ·show Bl s ((r+1:Nat):Int) l=_;unfold Bl;rw [if_pos (by simp),A7 (by omega) (by omega),h1];simp only [Option.bind_some];rw [BU hj];simp only [Option.bind_some];rw [BU hl];grind [BU,A7]
theorem AgM {l:List Int} {s:Int} (hm:l.length<=900): ∃ s2 l2,CP s l=some (l2,s2)/\l2.Perm l:=by
 unfold CP jn;rw [AaU (by omega)];have key: ∃ s2 l2,iter (fun(v:Int×Int×(List (Int)))=>Bl v.1 v.2.1 v.2.2) FU (s,Aa ((l.length:Int) - (1:Int)),l)=some (s2,l2)/\l2.Perm l:=by
  rcases Nat.eq_zero_or_pos l.length with h | h
  ·refine⟨s,l,uX ?_,List.Perm.refl _⟩;show Bl s (Aa ((l.length:Int) - 1)) l=_;simp_all [Bl,A7]
  ·obtain⟨s2,l2,h1,h2⟩:=uY (l.length - 1) FU (l:=l) (s:=s) (by unfold FU;omega) (by omega) hm;grind [A7]
 obtain⟨s2,l2,h1,h2⟩:=key;refine⟨s2,l2,?_,h2⟩;show (iter (fun(v:Int×Int×(List (Int)))=>Bl v.1 v.2.1 v.2.2) FU (s,Aa ((l.length:Int) - (1:Int)),l)).bind _=_;rw [h1];rfl
def tf (c:AA) (n:Int):Bool:=decide (n<0)||(decide ((c.aaG.length:Int)<=n)||(c.aaG.getD n.toNat default).Token)
def AaV (d:List Int):Bool:=decide (250<d.length)
def uZ (c:AA):Bool:=decide (2<=c.i_.length/\c.i_.length<=4/\0<=c.aaX/\c.aaX<c.i_.length)
def Ws (c:AA):Int:=if(L5 c.aaG).2 ≠ 0 then(L5 c.aaG).2 else if uZ c=false then 1 else if c.i_.any AaV=true then 5 else if(c.i_.any fun d=>d.any (tf c)) then 2 else 0
theorem AjX (c:AA) (n:Int) {g:Bool} (hg:g= !(decide (n<0)||decide ((c.aaG.length:Int)<=n))): ∃ e,gd g (idx c.aaG n)=some e/\(decide (n<0)||(decide ((c.aaG.length:Int)<=n)||e.Token))=tf c n:=by
 unfold tf;by_cases h:0<=n/\n<c.aaG.length
 ·refine⟨c.aaG.getD n.toNat default,?_,rfl⟩;rw [hg,decide_eq_false (by omega),decide_eq_false (by omega)];exact S6 h
 ·have h2:(decide (n<0)||decide ((c.aaG.length:Int)<=n))=true:=by simp;omega
  refine⟨default,by rw [hg,h2];rfl,?_⟩;grind
theorem Aiu {γ:Type} (c:AA) (d:List Int) (hd:d.length<9223372036854775807) {K:Option γ} {f:Int->Option γ}:(iter (fun(v:Int)=>CG c d v) FU (0:Int)).bind (Sum.elim (fun _=>K) f)=if d.any (tf c)=true then f 2 else K:=
 pR (p:=tf c) hd (fun i hi=>by
  obtain⟨e,h1,h2⟩:=AjX c d[i] (g:=(decide (d[i]<0)||decide ((c.aaG.length:Int)<=d[i]))==false) (bF _);show CG c d (i:Int)=_;unfold CG;rw [if_pos (by simp only [bz];omega),BU hi,Tk (by omega)];grind) (by
  simp_all [CG])
def th (c:AA):Prop:=AaS c.aaG/\ ∀ d∈c.i_,d.length<9223372036854775807
theorem lF {c:AA} (hc:th c):IK c=some (Ws c):=by
 simp only [IK,Hd,PU,jn,uW hc.1,Option.bind_some];unfold Ws;by_cases h0:(L5 c.aaG).2=0
 ·rw [if_neg (show ¬(L5 c.aaG).2 ≠ 0 by simp [h0]),show ((L5 c.aaG).2 != 0)=false by simp [h0]];simp only [Bool.false_eq_true,if_false];by_cases h1:2<=c.i_.length/\c.i_.length<=4/\0<=c.aaX/\c.aaX<c.i_.length
  ·have hh:uZ c=true:=decide_eq_true h1;rw [if_neg (by simp only [bz];omega),hh];simp only [Bool.true_eq_false,if_false];rw [pR (l:=c.i_) (p:=AaV) (c:=(5:Int)) (B:=fun v=>DU c v) (by omega) (fun i hi=>by
    show DU c (i:Int)=_;unfold DU AaV;rw [if_pos (by simp only [bz];omega),BU hi,Tk (by omega)];grind) (by
    simp_all [DU])]
   rw [pR (l:=c.i_) (p:=fun d=>d.any (tf c)) (c:=(2:Int)) (B:=fun v=>CH c v) (by omega) (fun i hi=>by
    show CH c (i:Int)=_;simp only [CH,OA,jn];rw [if_pos (by simp only [bz];omega),BU hi,Tk (by omega)];simp only [Option.bind_some];rw [Aiu c _ (hc.2 _ (List.getElem_mem hi))];grind) (by
    simp_all [CH])]
   grind
  ·have hh:uZ c=false:=decide_eq_false h1;grind
 grind
end Go.PL
