/- Plain laws of games that begin: the new game is such a game. -/
import Derived.Test.YteginlijmbcopaaGreatDoorPlBkM
namespace Go.PL
open Go
set_option linter.all false
set_option maxRecDepth 100000
set_option maxHeartbeats 1000000
theorem O0 {n p:Int} {l:List Int} {i:Nat} (h:i<(Jz n p l).length):(Jz n p l)[i]=tu (n+i) (l[i]'(by rw [MF]at h;exact h)) p:=by simp [Jz]
theorem MG {n p:Int} {l:List Int} {o:Ag} (h:o∈Jz n p l): ∃ (i:Nat) (h:i<l.length),o=tu (n+i) l[i] p:=by obtain⟨i,hi,rfl⟩:=List.getElem_of_mem h;grind [O0]
theorem AdX {n:Int} {l:List Int} (p:Int):ids (Jz n p l) p 2=Hi n l.length:=by unfold ids;rw [List.filter_eq_self.2 (fun o ho=>by obtain⟨i,hi,rfl⟩:=MG ho;simp [tu])];grind [List.ext_getElem,List.length_map,MF,O0,Hi,tu]
theorem qG {n:Int} {l:List Int} {p q z:Int} (h:p ≠ q\/z ≠ 2):ids (Jz n p l) q z=[]:=by
 unfold ids;rw [List.filter_eq_nil_iff.2 (fun o ho=>by obtain⟨i,hi,rfl⟩:=MG ho;grind [tu])]
 rfl
theorem Aaw {n:Int} {l:List Int} (p:Int):Gf (Jz n p l) p=l:=by unfold Gf;rw [List.filter_eq_self.2 (fun o ho=>by obtain⟨i,hi,rfl⟩:=MG ho;simp [tu])];refine List.ext_getElem (by rw [List.length_map,MF]) fun i h1 h2=>?_;rw [List.getElem_map,O0];rfl
theorem xg {n:Int} {l:List Int} {p q:Int} (h:p ≠ q):Gf (Jz n p l) q=[]:=by unfold Gf;rw [List.filter_eq_nil_iff.2 (fun o ho=>by obtain⟨i,hi,rfl⟩:=MG ho;simp [tu,h])];rfl
structure GN (c:Az) (p:Nat) (x:GS4):Prop where
 n:1<=x.1/\x.1<=1+250*p
 ob: ∀ o∈x.2.2.1,Ook c.C_.length c.h_.length x.1 o/\o.m_<p
 asc:x.2.2.1.Pairwise fun a b=>a.Id<b.Id
 len:x.2.2.2.length=c.h_.length
 pl: ∀ (j:Nat) (h:j<x.2.2.2.length),Pok x.2.2.1 (j:Int) x.2.2.2[j]
 cnt: ∀ (j:Nat) (h:j<c.h_.length),j<p->(Gf x.2.2.1 (j:Int)).Perm c.h_[j]
 ol:x.2.2.1.length<=250*p
theorem Abm {c:Az} (hd: ∀ d∈c.h_,d.length<=250) (hb: ∀ d∈c.h_, ∀ n∈d,Wh c n=false): ∀ p:Nat,p<=c.h_.length->p<=4->GN c p (B2 c p)
 | 0,_,_=>⟨(by grind [B2]),by simp [B2],by simp [B2],by simp [B2],fun j h=>by refine⟨[],[],?_,List.Perm.refl _,List.Perm.refl _⟩;simp [B2];rfl,(by grind),by simp [B2]⟩
 | p+1,hp,h4=>by
   have g:=Abm hd hb p (by omega) (by omega);have hpd:p<c.h_.length:=by omega
   have hgd:c.h_.getD p []=c.h_[p]:=by grind
   obtain⟨q1,l,hs,aeH⟩:=Aap (l:=c.h_.getD p []) (s:=(B2 c p).2.1) (by grind);rw [hgd]at aeH;have hl:l.length<=250:=by rw [aeH.length_eq];grind
   have e:B2 c (p+1)=((B2 c p).1+l.length,q1,(B2 c p).2.2.1++Jz (B2 c p).1 p l,(B2 c p).2.2.2.set p (tt (Hi (B2 c p).1 l.length))):=by grind [stp,B2]
   rw [e];have gn:=g.n;have gl:=g.len;have go:=g.ol;have ac0: ∀ (q z:Int),q ≠ p->ids ((B2 c p).2.2.1++Jz (B2 c p).1 p l) q z=ids (B2 c p).2.2.1 q z:=(by grind [DU,qG]);have hno: ∀ z:Int,ids (B2 c p).2.2.1 (p:Int) z=[]:=fun z=>by unfold ids;rw [List.filter_eq_nil_iff.2 (fun o ho=>by have:=(g.ob o ho).2;simp;omega)];rfl
   refine⟨(by grind),fun o ho=>?_,?_,by grind,fun j h=>?_,fun j h hj=>?_,by grind [MF]⟩
   ·dsimp only at ho ⊢;rcases List.mem_append.1 ho with ho | ho
    ·obtain⟨k,w⟩:=g.ob o ho;exact⟨⟨k.f,⟨k.i.1,by have:=k.i.2;omega⟩,k.k,k.w,k.z,⟨k.m.1,by have:=k.m.2;omega⟩⟩,by omega⟩
    ·obtain⟨i,hi,rfl⟩:=MG ho;have aqZ:=hb _ (List.getElem_mem hpd) l[i] (aeH.subset (List.getElem_mem hi));unfold Wh at aqZ;simp only [Bool.or_eq_false_iff,decide_eq_false_iff_not]at aqZ;obtain⟨b1,b2,_⟩:=aqZ;have hid:(tu ((B2 c p).1+(i:Int)) l[i] p).Id =(B2 c p).1+(i:Int):=rfl;refine⟨⟨rfl,(by grind),⟨by show 0<=l[i];omega,by show l[i]<_;omega⟩,⟨by show 0<=(p:Int);omega,by show (p:Int)<_;omega⟩, .inr rfl,⟨by show 1<=(B2 c p).1+(i:Int);omega,by show (B2 c p).1+(i:Int)<_;omega⟩⟩,by show (p:Int)<_;omega⟩
   ·dsimp only;refine List.pairwise_append.2 ⟨g.asc,?_,fun a ha b hb'=>?_⟩
    ·refine List.pairwise_iff_getElem.2 fun i j hi hj hij=>?_;rw [O0,O0];show (B2 c p).1+(i:Int)<(B2 c p).1+(j:Int);omega
    ·obtain⟨i,hi,rfl⟩:=MG hb';have:=(g.ob a ha).1.i.2;show a.Id<(B2 c p).1+(i:Int);omega
   ·have hj':j<(B2 c p).2.2.2.length :=by grind
    show Pok ((B2 c p).2.2.1++Jz (B2 c p).1 p l) (j:Int) (((B2 c p).2.2.2.set p (tt (Hi (B2 c p).1 l.length)))[j]'(by grind));by_cases ej:p=j
    ·subst ej;rw [List.getElem_set_self];refine⟨Hi (B2 c p).1 l.length,[],rfl,?_,?_⟩
     all_goals grind [DU,AdX,qG]
    ·rw [List.getElem_set_ne ej];obtain⟨a,b,e1,e2,e3⟩:=g.pl j hj';have Tg:(j:Int) ≠ (p:Int):=by omega
     exact⟨a,b,e1,by rw [ac0 _ _ Tg];exact e2,by rw [ac0 _ _ Tg];exact e3⟩
   ·show (Gf ((B2 c p).2.2.1++Jz (B2 c p).1 p l) (j:Int)).Perm _;rw [OZ];by_cases ej:p=j
    ·subst ej;have aE0:Gf (B2 c p).2.2.1 (p:Int)=[]:=by unfold Gf;rw [List.filter_eq_nil_iff.2 (fun o ho=>by have:=(g.ob o ho).2;simp;omega)];rfl
     grind [Aaw]
    ·rw [xg (by omega),List.append_nil];exact g.cnt j h (by omega)
theorem AfD {c:Az} (h:bj c=0):Gk c (lQ c)/\(lQ c).g_ <=1001/\2<=c.h_.length/\0<=c.Td/\c.Td<c.h_.length:=by
 obtain⟨h1,⟨h2,h3,h4,h5⟩,h6,h7⟩:=oX h;have g:=Abm h6 h7 c.h_.length (Nat.le_refl _) h3;have gn:=g.n;refine⟨⟨gn.1,rfl,rfl,rfl,rfl,rfl,rfl,rfl,rfl,rfl,rfl,rfl,rfl,⟨Int.le_refl 0,show (0:Int)<=1 by decide⟩,rfl,g.len,g.pl,fun o ho=>(g.ob o ho).1,g.asc,fun p hp=>g.cnt p hp hp,h3,h6,?_⟩,?_,h2,h4,h5⟩
 ·have:=g.ol;show (B2 c c.h_.length).2.2.1.length <=_;omega
 ·show (B2 c c.h_.length).1<=_;omega
end Go.PL
