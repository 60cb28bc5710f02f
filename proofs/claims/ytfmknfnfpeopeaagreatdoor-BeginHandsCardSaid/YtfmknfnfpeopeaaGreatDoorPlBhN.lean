/- The plain law of BeginHands: cards drawn and returned. -/
import Derived.Test.YtfmknfnfpeopeaaGreatDoorPlBhM
namespace Go.PL
open Go
set_option linter.all false
set_option maxRecDepth 100000
def Fo (os:List Aa) (id w z:Int):Prop:= ∃ o,os.find? (fun o=>o.Id==id)=some o∧o.Owner=w∧o.Zone=z∧o.Token=false
theorem Fo.split {os:List Aa} {id w z:Int} (h:Fo os id w z): ∃ A C o,os=A++o::C∧o.Id=id∧o.Owner=w∧o.Zone=z∧o.Token=false∧ ∀ a∈A,(a.Id==id)=false:=by
 obtain⟨o,h1,h2,h3,h4⟩:=h
 obtain⟨k1,A,C,rfl,k2⟩:=List.find?_eq_some_iff_append.1 h1
 exact⟨A,C,o,rfl,by simpa using k1,h2,h3,h4,fun a ha=>by simpa using k2 a ha⟩
theorem Fo.lt {os:List Aa} {id w z n:Int} (h:Fo os id w z) (hb: ∀ o∈os,o.Id<n):id<n:=by
 obtain⟨A,C,o,rfl,h1,_⟩:=h.split
 have:=hb o (by simp)
 omega
theorem Fo.move {A C:List Aa} {o y:Aa} {id w z:Int} (h:Fo (A++o::C) id w z) (hne:o.Id ≠ id):Fo (A++C++[y]) id w z:=by
 obtain⟨x,h1,h2⟩:=h
 refine⟨x,?_,h2⟩
 have hb:(o.Id==id)=false:=by simpa using hne
 rw [List.find?_append,List.find?_cons,hb]at h1
 simp only at h1
 rw [List.find?_append,List.find?_append,h1]
 rfl
theorem Fo.new {l:List Aa} {y:Aa} {w z:Int} (hb: ∀ o∈l,o.Id<y.Id) (h1:y.Owner=w) (h2:y.Zone=z) (h3:y.Token=false):Fo (l++[y]) y.Id w z:=by
 refine⟨y,?_,h1,h2,h3⟩
 rw [List.find?_append,List.find?_eq_none.2 (fun x hx=>by have:=hb x hx;simp;omega)]
 simp
def wI (w:Bool):Int:=match w with
 | false=>0
 | true=>1
def ST (w:Bool) (l h l' h':List Int) (os:List Aa) (n m q:Int):Af:=match w with
 | false=>SB (B6 l h) (B6 l' h') os n m q
 | true=>SB (B6 l' h') (B6 l h) os n m q
structure Iv (w:Bool) (l h l' h':List Int) (os:List Aa) (n:Int) (z:Nat):Prop where
 hl: ∀ id∈l,Fo os id (wI w) 2
 hh: ∀ id∈h,Fo os id (wI w) 1
 hl': ∀ id∈l',Fo os id (wI !w) 2
 hh': ∀ id∈h',Fo os id (wI !w) 1
 nl:l.Nodup
 nh:h.Nodup
 nl':l'.Nodup
 nh':h'.Nodup
 sz:l.length+h.length=z
 sz':l'.length+h'.length=z
 bd: ∀ o∈os,o.Id<n
 len:os.length=2*z
theorem Iv.swap {w:Bool} {l h l' h':List Int} {os:List Aa} {n:Int} {z:Nat} (i:Iv w l h l' h' os n z):Iv (!w) l' h' l h os n z:=
 ⟨i.hl',i.hh',by rw [Bool.not_not];exact i.hl,by rw [Bool.not_not];exact i.hh,i.nl',i.nh',i.nl,i.nh,i.sz',i.sz,i.bd,i.len⟩
theorem ST.swap {w:Bool} {l h l' h':List Int} {os:List Aa} {n m q:Int}:ST w l h l' h' os n m q=ST (!w) l' h' l h os n m q:=by
 cases w<;>rfl
section
variable {w:Bool} {l h l' h' L1 L2:List Int} {os:List Aa} {n m q id:Int} {z:Nat}
theorem Iv.okP (i:Iv w l h l' h' os n z) (hz:z≤12):ac (B6 l h)∧ac (B6 l' h'):=by
 have h1:=i.sz
 have h2:=i.sz'
 exact⟨⟨by show l.length≤1000;omega,by show h.length≤1000;omega,by show 0≤1000;omega⟩,⟨by show l'.length≤1000;omega,by show h'.length≤1000;omega,by show 0≤1000;omega⟩⟩
theorem Vi (h:(L1++id::L2).Nodup):(L1++L2).Nodup ∧id∉L1++L2:=by
 have h1:=List.nodup_append.1 h
 have h2:=List.nodup_cons.1 h1.2.1
 refine⟨List.Sublist.nodup (List.Sublist.append_left (List.sublist_cons_self _ _) _) h,fun q=>?_⟩
 rcases List.mem_append.1 q with q | q
 ·exact(h1.2.2 id q id (by simp)) rfl
 ·exact h2.1 q
theorem Iv.moved {A C:List Aa} {o y:Aa} (i:Iv w l h l' h' (A++o::C) n z) (ho:o.Id=id) (hid:id∈l∨id∈h) (hw:o.Owner=wI w) (hy:y.Id=n):
 (∀ x∈l',Fo (A++C++[y]) x (wI !w) 2)∧(∀ x∈h',Fo (A++C++[y]) x (wI !w) 1)∧(∀ x∈A++C++[y],x.Id<n+1)∧(A++C++[y]).length =2*z∧(∀ x v,x ≠ id→ ∀ k,Fo (A++o::C) x k v→Fo (A++C++[y]) x k v)∧(∀ x∈A++C,x.Id<n):=by
 have ne: ∀ x k,Fo (A++o::C) x (wI !w) k→id∈l∨id∈h→x ≠ id:=fun x k hx hid e=>by
  subst e
  have h1:Fo (A++o::C) x (wI w) 2∨Fo (A++o::C) x (wI w) 1:=hid.imp (i.hl x) (i.hh x)
  obtain⟨o1,a1,a2,_⟩:=hx
  rcases h1 with ⟨o2,b1,b2,_⟩ | ⟨o2,b1,b2,_⟩
  ·rw [a1]at b1;injection b1 with b1;subst b1
   rw [a2]at b2;cases w<;>cases b2
  ·rw [a1]at b1;injection b1 with b1;subst b1
   rw [a2]at b2;cases w<;>cases b2
 have hAC: ∀ x∈A++C,x.Id<n:=fun x hx=>i.bd x (by
  rcases List.mem_append.1 hx with q | q
  ·exact List.mem_append.2 (.inl q)
  ·exact List.mem_append.2 (.inr (List.mem_cons_of_mem _ q)))
 refine⟨fun x hx=>(i.hl' x hx).move (by rw [ho];exact Ne.symm (ne x 2 (i.hl' x hx) hid)),fun x hx=>(i.hh' x hx).move (by rw [ho];exact Ne.symm (ne x 1 (i.hh' x hx) hid)),fun x hx=>?_,?_,fun x v hx k hf=>hf.move (by rw [ho];exact Ne.symm hx),hAC⟩
 ·rcases List.mem_append.1 hx with q | q
  ·have:=hAC x q;omega
  ·have:x=y:=by simpa using q
   rw [this,hy];omega
 ·have:=i.len
  simp at this ⊢
  omega
theorem lL (i:Iv w (L1++id::L2) h l' h' os n z) (hz:z≤12) (h0:0≤n) (h1:n≤1000000): ∃ os' m',Cm (ST w (L1++id::L2) h l' h' os n m q) id 1 (wI w) false=some (ST w (L1++L2) (h++[n]) l' h' os' (n+1) m' q,n)∧Iv w (L1++L2) (h++[n]) l' h' os' (n+1) z:=by
 obtain⟨A,C,o,rfl,o1,o2,o3,o4,o5⟩:=(i.hl id (by simp)).split
 have hlen:=i.len
 have hs:=i.sz
 have hs':=i.sz'
 obtain⟨k1,k2⟩:=i.okP hz
 obtain⟨n1,n2⟩:=Vi i.nl
 obtain⟨oi,oc,oo,oct,oz,ot,otp,osk,odd,odm,ocn,ost,ocp,oat,obl,obs,osh⟩:=o
 simp only at o1 o2 o3 o4
 subst o1 o2 o3 o4
 have hw64:Al (n+1)=n+1:=AA (by omega) (by omega)
 have hl8:(A++(⟨oi,oc,wI w,oct,2,false,otp,osk,odd,odm,ocn,ost,ocp,oat,obl,obs,osh⟩:Aa)::C).length ≤800:=by rw [hlen];omega
 have hll:2≤(A++(⟨oi,oc,wI w,oct,2,false,otp,osk,odd,odm,ocn,ost,ocp,oat,obl,obs,osh⟩:Aa)::C).length :=by
  simp only [List.length_append,List.length_cons]at hs hlen ⊢
  omega
 have mv:=i.moved (id:=oi) (y:=⟨n,oc,wI w,wI w,1,false,false,false,false,0,⟨0,0,0⟩,m, -1, -1,false,0,0⟩) rfl (.inl (by simp)) rfl rfl
 obtain⟨m1,m2,m3,m4,m5,m6⟩:=mv
 refine⟨A++C++[⟨n,oc,wI w,wI w,1,false,false,false,false,0,⟨0,0,0⟩,m, -1, -1,false,0,0⟩],Al (m+1),?_,?_⟩
 ·cases w
  ·have:=n7 (l1:=l') (h0:=h) (h1:=h') (L1:=L1) (L2:=L2) (c:=0) (n:=n) (m:=m) (q:=q) rfl k1 k2 (by omega) (by omega) i.nl hl8 hll o5 m6
   rw [hw64]at this
   exact this
  ·have:=n9 (l0:=l') (h0:=h') (h1:=h) (L1:=L1) (L2:=L2) (c:=1) (n:=n) (m:=m) (q:=q) rfl k2 k1 (by omega) (by omega) i.nl hl8 hll o5 m6
   rw [hw64]at this
   exact this
 ·refine⟨fun x hx=>?_,fun x hx=>?_,m1,m2,n1,?_,i.nl',i.nh',?_,i.sz',m3,m4⟩
  ·have hne:x ≠ oi:=fun e=>n2 (e▸hx)
   refine m5 x _ hne _ (i.hl x ?_)
   rcases List.mem_append.1 hx with q | q
   ·exact List.mem_append.2 (.inl q)
   ·exact List.mem_append.2 (.inr (List.mem_cons_of_mem _ q))
  ·rcases List.mem_append.1 hx with q | q
   ·have hf:=i.hh x q
    have hne:x ≠ oi:=fun e=>by
     subst e
     obtain⟨p1,a1,_,a3,_⟩:=hf
     obtain⟨p2,b1,_,b3,_⟩:=i.hl x (by simp)
     rw [a1]at b1;injection b1 with b1;subst b1
     rw [a3]at b3;cases b3
    exact m5 x _ hne _ hf
   ·have:x=n:=by simpa using q
    subst this
    exact Fo.new (y:=⟨x,oc,wI w,wI w,1,false,false,false,false,0,⟨0,0,0⟩,m, -1, -1,false,0,0⟩) m6 rfl rfl rfl
  ·refine List.nodup_append.2 ⟨i.nh,by simp,fun a ha b hb=>?_⟩
   have:b=n:=by simpa using hb
   have:=(i.hh a ha).lt i.bd
   omega
  ·simp at hs ⊢;omega
theorem mP (i:Iv w l (L1++id::L2) l' h' os n z) (hz:z≤12) (h0:0≤n) (h1:n≤1000000): ∃ os' m',Cm (ST w l (L1++id::L2) l' h' os n m q) id 2 (wI w) false=some (ST w (n::l) (L1++L2) l' h' os' (n+1) m' q,n)∧Iv w (n::l) (L1++L2) l' h' os' (n+1) z:=by
 obtain⟨A,C,o,rfl,o1,o2,o3,o4,o5⟩:=(i.hh id (by simp)).split
 have hlen:=i.len
 have hs:=i.sz
 have hs':=i.sz'
 obtain⟨k1,k2⟩:=i.okP hz
 obtain⟨n1,n2⟩:=Vi i.nh
 obtain⟨oi,oc,oo,oct,oz,ot,otp,osk,odd,odm,ocn,ost,ocp,oat,obl,obs,osh⟩:=o
 simp only at o1 o2 o3 o4
 subst o1 o2 o3 o4
 have hw64:Al (n+1)=n+1:=AA (by omega) (by omega)
 have hl8:(A++(⟨oi,oc,wI w,oct,1,false,otp,osk,odd,odm,ocn,ost,ocp,oat,obl,obs,osh⟩:Aa)::C).length ≤800:=by rw [hlen];omega
 have hll:2≤(A++(⟨oi,oc,wI w,oct,1,false,otp,osk,odd,odm,ocn,ost,ocp,oat,obl,obs,osh⟩:Aa)::C).length :=by
  simp only [List.length_append,List.length_cons]at hs hlen ⊢
  omega
 have mv:=i.moved (id:=oi) (y:=⟨n,oc,wI w,wI w,2,false,false,false,false,0,⟨0,0,0⟩,m, -1, -1,false,0,0⟩) rfl (.inr (by simp)) rfl rfl
 obtain⟨m1,m2,m3,m4,m5,m6⟩:=mv
 refine⟨A++C++[⟨n,oc,wI w,wI w,2,false,false,false,false,0,⟨0,0,0⟩,m, -1, -1,false,0,0⟩],Al (m+1),?_,?_⟩
 ·cases w
  ·have:=n8 (l0:=l) (l1:=l') (h1:=h') (L1:=L1) (L2:=L2) (c:=0) (n:=n) (m:=m) (q:=q) rfl k1 k2 (by omega) (by omega) i.nh hl8 hll o5 m6
   rw [hw64]at this
   exact this
  ·have:=oa (l0:=l') (l1:=l) (h0:=h') (L1:=L1) (L2:=L2) (c:=1) (n:=n) (m:=m) (q:=q) rfl k2 k1 (by omega) (by omega) i.nh hl8 hll o5 m6
   rw [hw64]at this
   exact this
 ·refine⟨fun x hx=>?_,fun x hx=>?_,m1,m2,?_,n1,i.nl',i.nh',?_,i.sz',m3,m4⟩
  ·rcases List.mem_cons.1 hx with q | q
   ·subst q
    exact Fo.new (y:=⟨x,oc,wI w,wI w,2,false,false,false,false,0,⟨0,0,0⟩,m, -1, -1,false,0,0⟩) m6 rfl rfl rfl
   ·have hf:=i.hl x q
    have hne:x ≠ oi:=fun e=>by
     subst e
     obtain⟨p1,a1,_,a3,_⟩:=hf
     obtain⟨p2,b1,_,b3,_⟩:=i.hh x (by simp)
     rw [a1]at b1;injection b1 with b1;subst b1
     rw [a3]at b3;cases b3
    exact m5 x _ hne _ hf
  ·have hne:x ≠ oi:=fun e=>n2 (e▸hx)
   refine m5 x _ hne _ (i.hh x ?_)
   rcases List.mem_append.1 hx with q | q
   ·exact List.mem_append.2 (.inl q)
   ·exact List.mem_append.2 (.inr (List.mem_cons_of_mem _ q))
  ·refine List.nodup_cons.2 ⟨fun hm=>?_,i.nl⟩
   have:=(i.hl n hm).lt i.bd
   omega
  ·simp at hs ⊢;omega
end
end Go.PL
