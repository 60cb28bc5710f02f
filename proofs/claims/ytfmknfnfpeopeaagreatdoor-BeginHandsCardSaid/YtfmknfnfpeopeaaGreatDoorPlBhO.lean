/- The plain law of BeginHands: hands drawn, returned, shuffled. -/
import Derived.Test.YtfmknfnfpeopeaaGreatDoorPlBhN
namespace Go.PL
open Go
set_option linter.all false
set_option maxRecDepth 100000
theorem below {s k:Int} (h1:1≤k) (h2:k≤1000): ∃ (j:Nat) (s2:Int),Jw s k=some ((j:Int),s2)∧(j:Int)<k:=by
 have hw:IntKind.u64.wrap k=k:=ZJ (by omega) (by omega)
 obtain⟨x,s2,hx,hb⟩: ∃ x s2,NZ s=some (x,s2)∧0≤x:=⟨_,_,rfl,(ZK _).1⟩
 have ht:Int.tmod x k=((x.toNat % k.toNat:Nat):Int):=by
  rw [Int.tmod_eq_emod_of_nonneg hb]
  rw [Int.natCast_emod,Int.toNat_of_nonneg hb,Int.toNat_of_nonneg (by omega)]
 have hlt:x.toNat % k.toNat<k.toNat:=Nat.mod_lt _ (by omega)
 refine⟨x.toNat % k.toNat,s2,?_,by omega⟩
 unfold Jw
 rw [if_neg (by simp;omega),hx]
 simp only [Option.bind_some]
 rw [hw]
 refine(nb (by omega)).trans ?_
 rw [ht,AA (by omega) (by omega)]
theorem bt: ∀ (r N:Nat) {l:List Int} {s:Int},r<N→r<l.length→l.length≤900→ ∃ s2 l2,iter (fun(v:Int×Int×(List (Int)))=>Bg v.1 v.2.1 v.2.2) N (s,(r:Int),l)=some (s2,l2)∧l2.Perm l
 | 0,N+1,l,s,_,_,_=>⟨s,l,Fa (by
  show Bg s ((0:Nat):Int) l=_
  unfold Bg
  rw [if_neg (by simp)]),List.Perm.refl _⟩
 | r+1,N+1,l,s,hN,hl,hm=>by
   obtain⟨j,s2,h1,h2⟩:=below (s:=s) (k:=((r+1:Nat):Int)+1) (by omega) (by omega)
   have hj:j<l.length:=by omega
   have hp:=List.set_set_perm hl hj
   have hlen:((l.set (r+1) l[j]).set j l[r+1]).length =l.length:=by simp
   obtain⟨s3,l3,k1,k2⟩:=bt r N (l:=(l.set (r+1) l[j]).set j l[r+1]) (s:=s2) (by omega) (by rw [hlen];omega) (by rw [hlen];exact hm)
   refine⟨s3,l3,?_,k2.trans hp⟩
   rw [Ju (s':=(s2,((r:Nat):Int),(l.set (r+1) l[j]).set j l[r+1]))]
   ·exact k1
   ·show Bg s ((r+1:Nat):Int) l=_
    unfold Bg
    rw [if_pos (by simp),AA (by omega) (by omega),h1]
    simp only [Option.bind_some]
    rw [Bl hj]
    simp only [Option.bind_some]
    rw [Bl hl]
    simp only [Option.bind_some]
    rw [Bl (by simp;exact hj)]
    simp only [Option.bind_some,Int.toNat_natCast]
    rw [AA (by omega) (by omega)]
    congr 3
    congr 1
    omega
theorem mQ {l:List Int} {s:Int} (hm:l.length≤900): ∃ s2 l2,CH s l=some (l2,s2)∧l2.Perm l:=by
 unfold CH jn
 rw [Io (by omega)]
 have key: ∃ s2 l2,iter (fun(v:Int×Int×(List (Int)))=>Bg v.1 v.2.1 v.2.2) FU (s,Al ((l.length:Int) - (1:Int)),l)=some (s2,l2)∧l2.Perm l:=by
  rcases Nat.eq_zero_or_pos l.length with h | h
  ·refine⟨s,l,Yp ?_,List.Perm.refl _⟩
   show Bg s (Al ((l.length:Int) - 1)) l=_
   unfold Bg
   rw [if_neg (by rw [AA (by omega) (by omega)];simp;omega)]
  ·obtain⟨s2,l2,h1,h2⟩:=bt (l.length - 1) FU (l:=l) (s:=s) (by unfold FU;omega) (by omega) hm
   refine⟨s2,l2,?_,h2⟩
   rw [AA (by omega) (by omega),show (l.length:Int) - 1=((l.length - 1:Nat):Int) by omega,h1]
 obtain⟨s2,l2,h1,h2⟩:=key
 refine⟨s2,l2,?_,h2⟩
 show (iter (fun(v:Int×Int×(List (Int)))=>Bg v.1 v.2.1 v.2.2) FU (s,Al ((l.length:Int) - (1:Int)),l)).bind _=_
 rw [h1]
 rfl
section
variable {w:Bool} {l h l' h':List Int} {os:List Aa} {n m q:Int} {z:Nat}
theorem bu (i:Iv w l h l' h' os n z) (hz:z≤12):CB (ST w l h l' h' os n m q) 2 (wI w)=some l:=by
 obtain⟨k1,k2⟩:=i.okP hz
 cases w
 ·exact(bm k1 k2).1
 ·exact(bm k2 k1).2.1
theorem SF (i:Iv w l h l' h' os n z) (hz:z≤12):CB (ST w l h l' h' os n m q) 1 (wI w)=some h:=by
 obtain⟨k1,k2⟩:=i.okP hz
 cases w
 ·exact(bm k1 k2).2.2.1
 ·exact(bm k2 k1).2.2.2
theorem Yq {k:Nat} (hk:k≤7) (hz:z≤12): ∀ (r i N:Nat) {l h:List Int} {os:List Aa} {n m:Int},i+r=k→r<N→Iv w l h l' h' os n z→0≤n→n+r≤1000000→
 ∃ l2 h2 os2 n2 m2,iter (fun(v:Int×Af)=>Ca (wI w) (k:Int) v.1 v.2) N ((i:Int),ST w l h l' h' os n m q)=some (ST w l2 h2 l' h' os2 n2 m2 q)∧Iv w l2 h2 l' h' os2 n2 z∧h2.length=h.length+min r l.length∧n≤n2∧n2≤n+r
 | 0,i,N+1,l,h,os,n,m,hi,_,iv,h0,h1=>by
   refine⟨l,h,os,n,m,Fa ?_,iv,by simp,by omega,by omega⟩
   show Ca (wI w) (k:Int) (i:Int) _=_
   unfold Ca
   rw [if_neg (by simp;omega)]
 | r+1,i,N+1,l,h,os,n,m,hi,hN,iv,h0,h1=>by
   have hls:=bu (m:=m) (q:=q) iv hz
   cases l with
   | nil=>
     refine⟨[],h,os,n,m,Fa ?_,iv,by simp,by omega,by omega⟩
     show Ca (wI w) (k:Int) (i:Int) _=_
     unfold Ca
     rw [if_pos (by simp;omega),hls]
     rfl
   | cons x xs=>
     obtain⟨os1,m1,e1,iv1⟩:=lL (L1:=[]) (L2:=xs) (m:=m) (q:=q) iv hz h0 (by omega)
     obtain⟨l2,h2,os2,n2,m2,k1,k2,k3,k4,k5⟩:=Yq hk hz r (i+1) N (m:=m1) (by omega) (by omega) iv1 (by omega) (by omega)
     refine⟨l2,h2,os2,n2,m2,?_,k2,?_,by omega,by omega⟩
     ·rw [Ju (s':=(((i+1:Nat):Int),ST w xs (h++[n]) l' h' os1 (n+1) m1 q))]
      ·exact k1
      ·show Ca (wI w) (k:Int) (i:Int) _=_
       unfold Ca
       rw [if_pos (by simp;omega),hls]
       simp only [Option.bind_some]
       rw [if_neg (by simp;omega),show AN (x::xs) 0=some x from Bl (k:=0) (by simp)]
       simp only [Option.bind_some]
       rw [show ST w (x::xs) h l' h' os n m q=ST w ([]++x::xs) h l' h' os n m q from rfl,e1,AA (by omega) (by omega)]
       rfl
     ·rw [k3]
      simp
      omega
theorem drawn {k:Nat} (hk:k≤7) (hz:z≤12) (iv:Iv w l h l' h' os n z) (h0:0≤n) (h1:n+k≤1000000):
 ∃ l2 h2 os2 n2 m2,Gk (ST w l h l' h' os n m q) (wI w) (k:Int)=some (ST w l2 h2 l' h' os2 n2 m2 q)∧Iv w l2 h2 l' h' os2 n2 z∧h2.length=h.length+min k l.length∧n≤n2∧n2≤n+k:=by
 obtain⟨l2,h2,os2,n2,m2,k1,k2⟩:=Yq (q:=q) hk hz k 0 FU (m:=m) (by omega) (by unfold FU;omega) iv h0 h1
 refine⟨l2,h2,os2,n2,m2,?_,k2⟩
 unfold Gk jn
 rw [show ((0:Nat):Int)=0 from rfl]at k1
 rw [k1]
 rfl
theorem fQ {r6:List Int} (hz:z≤12) (hr:r6.length≤12): ∀ (r i N:Nat) {l h:List Int} {os:List Aa} {n m:Int},i+r=r6.length→r<N→h=r6.drop i→Iv w l h l' h' os n z→0≤n→n+r≤1000000→
 ∃ l2 os2 n2 m2,iter (fun(v:Int×Af)=>BG (wI w) r6 v.1 v.2) N ((i:Int),ST w l h l' h' os n m q)=some (ST w l2 [] l' h' os2 n2 m2 q)∧Iv w l2 [] l' h' os2 n2 z∧n≤n2∧n2≤n+r
 | 0,i,N+1,l,h,os,n,m,hi,_,hh,iv,h0,h1=>by
   have:h=[]:=by rw [hh];exact List.drop_of_length_le (by omega)
   subst this
   refine⟨l,os,n,m,Fa ?_,iv,by omega,by omega⟩
   show BG (wI w) r6 (i:Int) _=_
   unfold BG
   rw [if_neg (by simp;omega)]
 | r+1,i,N+1,l,h,os,n,m,hi,hN,hh,iv,h0,h1=>by
   have hil:i<r6.length:=by omega
   have hd:r6.drop i=r6[i]::r6.drop (i+1):=List.drop_eq_getElem_cons hil
   rw [hd]at hh
   subst hh
   obtain⟨os1,m1,e1,iv1⟩:=mP (L1:=[]) (L2:=r6.drop (i+1)) (m:=m) (q:=q) iv hz h0 (by omega)
   obtain⟨l2,os2,n2,m2,k1,k2,k4,k5⟩:=fQ hz hr r (i+1) N (m:=m1) (by omega) (by omega) (by simp) iv1 (by omega) (by omega)
   refine⟨l2,os2,n2,m2,?_,k2,by omega,by omega⟩
   rw [Ju (s':=(((i+1:Nat):Int),ST w (n::l) ([]++r6.drop (i+1)) l' h' os1 (n+1) m1 q))]
   ·exact k1
   ·show BG (wI w) r6 (i:Int) _=_
    unfold BG
    rw [if_pos (by simp;omega),Bl hil]
    simp only [Option.bind_some]
    rw [show ST w l (r6[i]::r6.drop (i+1)) l' h' os n m q=ST w l ([]++r6[i]::r6.drop (i+1)) l' h' os n m q from rfl,e1,AA (by omega) (by omega)]
    rfl
theorem returned (hz:z≤12) (iv:Iv w l h l' h' os n z) (h0:0≤n) (h1:n+12≤1000000):
 ∃ l2 os2 n2 m2 q2,CX (ST w l h l' h' os n m q) (wI w)=some (ST w l2 [] l' h' os2 n2 m2 q2)∧Iv w l2 [] l' h' os2 n2 z∧n≤n2∧n2≤n+12:=by
 have hs:=iv.sz
 obtain⟨l2,os2,n2,m2,k1,k2,k3,k4⟩:=fQ (q:=q) (r6:=h) hz (by omega) h.length 0 FU (m:=m) (by omega) (by unfold FU;omega) (by simp) iv h0 (by omega)
 have hs2:=k2.sz
 obtain⟨q2,l3,p1,p2⟩:=mQ (l:=l2) (s:=q) (by simp at hs2;omega)
 have hm3: ∀ x,x∈l3↔x∈l2:=fun x=>p2.mem_iff
 have iv3:Iv w l3 [] l' h' os2 n2 z:=⟨fun x hx=>k2.hl x ((hm3 x).1 hx),k2.hh,k2.hl',k2.hh',p2.nodup_iff.2 k2.nl,k2.nh,k2.nl',k2.nh',by rw [p2.length_eq];exact hs2,k2.sz',k2.bd,k2.len⟩
 refine⟨l3,os2,n2,m2,q2,?_,iv3,k3,by omega⟩
 unfold CX jn
 rw [SF iv hz]
 show (iter (fun(v:Int×Af)=>BG (wI w) h v.1 v.2) FU ((0:Int),ST w l h l' h' os n m q)).bind _=_
 rw [show ((0:Nat):Int)=0 from rfl]at k1
 rw [k1]
 show Fj (wI w) (ST w l2 [] l' h' os2 n2 m2 q)=_
 unfold Fj
 rw [bu k2 hz]
 simp only [Option.bind_some]
 rw [show (ST w l2 [] l' h' os2 n2 m2 q).Seed =q by cases w<;>rfl,p1]
 simp only [Option.bind_some]
 obtain⟨a1,a2⟩:=k2.okP hz
 have hlen:=k2.len
 have hl3:Am l3=some l3:=Io (by have:=iv3.sz;simp at this;omega)
 have hset:Kp (ST w l2 [] l' h' os2 n2 m2 q) 2 (wI w) l3=some (ST w l3 [] l' h' os2 n2 m2 q):=by
  cases w
  ·unfold Kp
   rw [show ST false l2 [] l' h' os2 n2 m2 q=SB (B6 l2 []) (B6 l' h') os2 n2 m2 q from rfl,SE a1 a2 (by omega)]
   show (Am l3).bind _=_
   rw [hl3];rfl
  ·unfold Kp
   rw [show ST true l2 [] l' h' os2 n2 m2 q=SB (B6 l' h') (B6 l2 []) os2 n2 m2 q from rfl,SE a2 a1 (by omega)]
   show (Am l3).bind _=_
   rw [hl3];rfl
 rw [hset]
 cases w<;>rfl
end
end Go.PL
