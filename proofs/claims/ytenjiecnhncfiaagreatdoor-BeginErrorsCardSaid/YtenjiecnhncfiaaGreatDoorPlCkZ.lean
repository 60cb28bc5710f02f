/- Plain laws of games that begin: the new game. -/
import Derived.Test.YtenjiecnhncfiaaGreatDoorPlCkY
open List (getD_eq_getElem?_getD getElem?_eq_getElem getElem_mem any_eq_true)
namespace Go.PL
open Go
set_option maxRecDepth 100000
set_option linter.all false
set_option maxHeartbeats 1000000
abbrev NT:=List Int×List Int×List Bd×List AK×List Cm×Int×Int×Int×Bool×Int×Int×Int×Int×Int×List Int×Int×Int×List Ar×Int×List Ay
def b88 (c:AH) (v:Int×NT):=H5 c v.1 v.2.1 v.2.2.1 v.2.2.2.1 v.2.2.2.2.1 v.2.2.2.2.2.1 v.2.2.2.2.2.2.1 v.2.2.2.2.2.2.2.1 v.2.2.2.2.2.2.2.2.1 v.2.2.2.2.2.2.2.2.2.1 v.2.2.2.2.2.2.2.2.2.2.1 v.2.2.2.2.2.2.2.2.2.2.2.1 v.2.2.2.2.2.2.2.2.2.2.2.2.1 v.2.2.2.2.2.2.2.2.2.2.2.2.2.1 v.2.2.2.2.2.2.2.2.2.2.2.2.2.2.1 v.2.2.2.2.2.2.2.2.2.2.2.2.2.2.2.1 v.2.2.2.2.2.2.2.2.2.2.2.2.2.2.2.2.1 v.2.2.2.2.2.2.2.2.2.2.2.2.2.2.2.2.2.1 v.2.2.2.2.2.2.2.2.2.2.2.2.2.2.2.2.2.2.1 v.2.2.2.2.2.2.2.2.2.2.2.2.2.2.2.2.2.2.2.1 v.2.2.2.2.2.2.2.2.2.2.2.2.2.2.2.2.2.2.2.2
def vp (w:Int) (r:List Int×Int) (v:Int×NT):=GZ w r v.1 v.2.1 v.2.2.1 v.2.2.2.1 v.2.2.2.2.1 v.2.2.2.2.2.1 v.2.2.2.2.2.2.1 v.2.2.2.2.2.2.2.1 v.2.2.2.2.2.2.2.2.1 v.2.2.2.2.2.2.2.2.2.1 v.2.2.2.2.2.2.2.2.2.2.1 v.2.2.2.2.2.2.2.2.2.2.2.1 v.2.2.2.2.2.2.2.2.2.2.2.2.1 v.2.2.2.2.2.2.2.2.2.2.2.2.2.1 v.2.2.2.2.2.2.2.2.2.2.2.2.2.2.1 v.2.2.2.2.2.2.2.2.2.2.2.2.2.2.2.1 v.2.2.2.2.2.2.2.2.2.2.2.2.2.2.2.2.1 v.2.2.2.2.2.2.2.2.2.2.2.2.2.2.2.2.2.1 v.2.2.2.2.2.2.2.2.2.2.2.2.2.2.2.2.2.2.1 v.2.2.2.2.2.2.2.2.2.2.2.2.2.2.2.2.2.2.2.1 v.2.2.2.2.2.2.2.2.2.2.2.2.2.2.2.2.2.2.2.2
def pl0:Ay:=⟨20,0,0,⟨0,0,0,0,0,0⟩,false,false,[],[],[]⟩
def vz (l:List Int):Ay:=⟨20,0,0,⟨0,0,0,0,0,0⟩,false,false,l,[],[]⟩
def stN (f n q:Int) (os:List Ar) (ps:List Ay):Ao:=⟨ps,os,[],[],[],[],[],0,f,0,false,f,0,n,n,q,[],0, -1⟩
def nt (f n q:Int) (os:List Ar) (ps:List Ay):NT:=([],[],[],[],[],0,f,0,false,f,0,n,n,q,[],0, -1,os,(ps.length:Int),ps)
theorem AgN {k:Nat} {f s:Int} (hk:2<=k/\k<=4) (hf:0<=f/\f<k):VC (k:Int) f s=some (stN f 1 s [] (List.replicate k pl0)):=by
 have h1:k=2\/k=3\/k=4:=by omega
 have h2:f=0\/f=1\/f=2\/f=3:=by omega
 rcases h1 with rfl | rfl | rfl<;>rcases h2 with rfl | rfl | rfl | rfl<;>first | omega | (change _=_;kernel_rfl)
def obN (id ahb p:Int):Ar:=⟨id,ahb,p,p,2,false,false,false,false,0,⟨0,0,0⟩,id, -1, -1,false,0,0⟩
def Uu (n p:Int) (l:List Int):List Ar:=l.mapIdx fun i c=>obN (n+i) c p
def I2 (n:Int) (k:Nat):List Int:=(List.range k).map fun(i:Nat)=>n+(i:Int)
theorem oh (n p:Int) (l:List Int):(Uu n p l).length =l.length:=by simp [Uu]
theorem vt (n:Int) (k:Nat):(I2 n k).length =k:=by simp [I2]
theorem rt (n:Int) (k:Nat):I2 n (k+1)=I2 n k++[n+(k:Int)]:=by simp [I2,List.range_succ]
theorem vu (n p:Int) (l:List Int) (c:Int):Uu n p (l++[c])=Uu n p l++[obN (n+l.length) c p]:=by simp [Uu]
theorem Ae5 {f n q q1:Int} {os:List Ar} {ps:List Ay} {lib l:List Int} {p i:Nat} (hp:p<ps.length) (hq:ps[p]=vz lib) (hi:i<l.length) (hl:l.length<=1000) (ho:os.length<=10000) (hb:lib.length<=10000) (hn:0<=n/\n<=100000):
 vp (p:Int) (l,q1) ((i:Int),nt f n q os ps)=some (.inl (((i+1:Nat):Int),nt f (n+1) q (os++[obN n l[i] p]) (ps.set p (vz (lib++[n]))))):=by
 unfold vp GZ;dsimp only [nt];rw [if_pos (by simp;omega),BY hi];simp only [Option.bind_some];show (app 128 os [obN n l[i] p]).bind _=_;rw [AfU (by simp;omega) (by omega)];simp only [Option.bind_some];rw [BY hp,hq];simp only [Option.bind_some];refine(nb (p:=(p:Int)<(ps.length:Int)) (by omega)).trans ?_;show (app 8 lib [n]).bind _=_;rw [AfU (by simp;omega) (by omega)];simp only [Option.bind_some];refine(nb (p:=(p:Int)<(ps.length:Int)) (by omega)).trans ?_;refine(nb (p:=True) trivial).trans ?_;rw [AU (by omega) (by omega),AU (by omega) (by omega),List.length_set];rfl
theorem Ae6 {f n q q1:Int} {os:List Ar} {ps:List Ay} {l:List Int} {p:Nat} (hp:p<ps.length) (hq:ps[p]=pl0) (hl:l.length<=1000) (ho:os.length<=5000) (hn:0<=n/\n<=50000):
 iter (fun v=>vp (p:Int) (l,q1) v) FU (0,nt f n q os ps)=some (nt f (n+l.length) q (os++Uu n p l) (ps.set p (vz (I2 n l.length)))):=by
 refine SO (fun i=>((i:Int),nt f (n+i) q (os++Uu n p (l.take i)) (ps.set p (vz (I2 n i))))) l.length (by omega) (fun i hi=>?_) ?_ ?_
 ·have:=Ae5 (f:=f) (n:=n+i) (q:=q) (q1:=q1) (os:=os++Uu n p (l.take i)) (ps:=ps.set p (vz (I2 n i))) (lib:=I2 n i) (l:=l) (p:=p) (i:=i) (by simpa using hp) (by simp) hi hl (by rw [List.length_append,oh,List.length_take];omega) (by rw [vt];omega) (by omega);rw [this,List.append_assoc,List.set_set,rt,List.take_succ_eq_append_getElem hi,vu,List.length_take,Nat.min_eq_left (by omega)];congr 4;omega
 ·show vp (p:Int) (l,q1) ((l.length:Int),_)=_;unfold vp GZ;dsimp only [nt];rw [if_neg (by simp),List.take_length]
 ·have e:ps.set p (vz (I2 n 0))=ps:=by rw [show vz (I2 n 0)=pl0 from rfl, <-hq,List.set_getElem_self]
  show _=(((0:Nat):Int),nt f (n+((0:Nat):Int)) q (os++Uu n p (l.take 0)) (ps.set p (vz (I2 n 0))));rw [e];simp [Uu]
abbrev GS4:=Int×Int×List Ar×List Ay
def stp (c:AH) (p:Nat) (x:GS4):GS4:=match DL x.2.1 (c.l_.getD p [])with
 | some r=>(x.1+r.1.length,r.2,x.2.2.1++Uu x.1 p r.1,x.2.2.2.set p (vz (I2 x.1 r.1.length)))
 | none=>x
def E8 (c:AH):Nat->GS4
 | 0=>(1,c.adH,[],List.replicate c.l_.length pl0)
 | p+1=>stp c p (E8 c p)
structure GOk (c:AH) (p:Nat) (x:GS4):Prop where
 n:1<=x.1/\x.1<=1+1000*p
 os:x.2.2.1.length<=1000*p
 len:x.2.2.2.length=c.l_.length
 pl: ∀ j:Nat,p<=j->(h:j<x.2.2.2.length)->x.2.2.2[j]=pl0
def zm (f:Int) (x:GS4):NT:=nt f x.1 x.2.1 x.2.2.1 x.2.2.2
theorem AbU {c:AH} {p:Nat} {x:GS4} {l:List Int} {q1:Int} (ok:GOk c p x) (hlt:p<c.l_.length) (h4:p<=4) (hs:DL x.2.1 (c.l_.getD p [])=some (l,q1)) (hl:l.length<=900):
 b88 c ((p:Int),zm c.aaO x)=some (.inl (((p+1:Nat):Int),zm c.aaO (x.1+l.length,q1,x.2.2.1++Uu x.1 p l,x.2.2.2.set p (vz (I2 x.1 l.length))))):=by
 have h1:=ok.n;have h2:=ok.os;have h3:=ok.len;have hpl:=ok.pl p (by omega) (by omega);unfold b88 H5 jn;dsimp only [zm,nt];rw [if_pos (by simp;omega),BY hlt];simp only [Option.bind_some];rw [show c.l_[p]=c.l_.getD p [] by rw [getD_eq_getElem?_getD,getElem?_eq_getElem hlt];rfl,hs];show (iter (fun v=>vp (p:Int) (l,q1) v) FU (0,nt c.aaO x.1 q1 x.2.2.1 x.2.2.2)).bind _=_;rw [Ae6 (by omega) hpl (by omega) (by omega) (by omega)];show some (Sum.inl (Ad ((p:Int)+1),_))=_;rw [AU (by omega) (by omega)];rfl
theorem AcK {c:AH} (hd: ∀ d∈c.l_,d.length<=900): ∀ p:Nat,p<=c.l_.length->p<=4->GOk c p (E8 c p)/\(p<c.l_.length->b88 c ((p:Int),zm c.aaO (E8 c p))=some (.inl (((p+1:Nat):Int),zm c.aaO (E8 c (p+1)))))
 | p,hp,h4=>by
   have ok:GOk c p (E8 c p):=by
    cases p with
    | zero=>exact⟨⟨by simp [E8],by simp [E8]⟩,by simp [E8],by simp [E8],fun j _ h=>by simp [E8]⟩
    | succ p=>
      obtain⟨o, -⟩:=AcK hd p (by omega) (by omega);obtain⟨q1,l,hs,am2⟩:=AgJ (l:=c.l_.getD p []) (s:=(E8 c p).2.1) (by rw [getD_eq_getElem?_getD,getElem?_eq_getElem (by omega)];exact hd _ (getElem_mem _));have hl:l.length<=900:=by rw [am2.length_eq,getD_eq_getElem?_getD,getElem?_eq_getElem (by omega)];exact hd _ (getElem_mem _)
      have e:E8 c (p+1)=((E8 c p).1+l.length,q1,(E8 c p).2.2.1++Uu (E8 c p).1 p l,(E8 c p).2.2.2.set p (vz (I2 (E8 c p).1 l.length))):=by show stp c p (E8 c p)=_;unfold stp;rw [hs]
      have h1:=o.n;have h2:=o.os;have h3:=o.len;rw [e];refine⟨?_,?_,?_,fun j hj h=>?_⟩
      ·dsimp only;omega
      ·dsimp only;rw [List.length_append,oh];omega
      ·dsimp only;rw [List.length_set];exact h3
      ·dsimp only at h ⊢;rw [List.getElem_set_ne (by omega)];exact o.pl j (by omega) _
   refine⟨ok,fun hlt=>?_⟩;obtain⟨q1,l,hs,am2⟩:=AgJ (l:=c.l_.getD p []) (s:=(E8 c p).2.1) (by rw [getD_eq_getElem?_getD,getElem?_eq_getElem (by omega)];exact hd _ (getElem_mem _));have hl:l.length<=900:=by rw [am2.length_eq,getD_eq_getElem?_getD,getElem?_eq_getElem (by omega)];exact hd _ (getElem_mem _)
   have e:E8 c (p+1)=((E8 c p).1+l.length,q1,(E8 c p).2.2.1++Uu (E8 c p).1 p l,(E8 c p).2.2.2.set p (vz (I2 (E8 c p).1 l.length))):=by show stp c p (E8 c p)=_;unfold stp;rw [hs]
   rw [e];exact AbU ok hlt h4 hs hl
def AgP (c:AH):Ao:=stN c.aaO (E8 c c.l_.length).1 (E8 c c.l_.length).2.1 (E8 c c.l_.length).2.2.1 (E8 c c.l_.length).2.2.2
theorem Ae7 {c:AH} (h:og c=0):(G4 c.aak).2=0/\(2<=c.l_.length/\c.l_.length<=4/\0<=c.aaO/\c.aaO<c.l_.length)/\(∀ d∈c.l_,d.length<=250)/\ ∀ d∈c.l_, ∀ n∈d,Oq c n=false:=by
 unfold og at h;split at h
 ·omega
 ·split at h
  ·cases h
  ·split at h
   ·cases h
   ·split at h
    ·cases h
    ·rename_i h1 h2 h3 h4;refine⟨by omega,by simpa [cV] using h2,fun d hd=>?_,fun d hd n hn=>?_⟩
     ·by_cases q:d.length<=250
      ·exact q
      ·exact absurd (any_eq_true.2 ⟨d,hd,decide_eq_true (by omega)⟩) h3
     ·by_cases q:Oq c n=true
      ·exact absurd (any_eq_true.2 ⟨d,hd,any_eq_true.2 ⟨n,hn,q⟩⟩) h4
      ·simpa using q
theorem AgQ {c:AH} (hc:AbT c): ∃ s,HM c=some (s,og c)/\(og c=0->s=AgP c):=by
 unfold HM;rw [Ae4 hc];simp only [Option.bind_some];by_cases h:og c=0
 ·obtain⟨h1,⟨h2,h3,h4,h5⟩,h6,h7⟩:=Ae7 h;rw [if_neg (by simp [h]),AgN ⟨h2,h3⟩ ⟨h4,h5⟩,h];refine⟨AgP c,?_,fun _=>rfl⟩;have hd: ∀ d∈c.l_,d.length<=900:=fun d hd=>by have:=h6 d hd;omega
  show (iter (fun v=>b88 c v) FU (0,zm c.aaO (E8 c 0))).bind _=_;rw [SO (s0:=(0,zm c.aaO (E8 c 0))) (fun p=>((p:Int),zm c.aaO (E8 c p))) c.l_.length (by omega) (fun p hp=>(AcK hd p (by omega) (by omega)).2 hp) (r:=zm c.aaO (E8 c c.l_.length)) (by
   show b88 c ((c.l_.length:Int),_)=_;unfold b88 H5;dsimp only [zm,nt];rw [if_neg (by simp)]) rfl]
  rfl
 ·rw [if_pos (by simpa using h)];exact⟨_,rfl,fun q=>absurd q h⟩
end Go.PL
