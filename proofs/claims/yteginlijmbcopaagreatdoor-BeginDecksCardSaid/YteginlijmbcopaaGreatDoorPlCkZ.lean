/- Plain laws of games that begin: the new game. -/
import Derived.Test.YteginlijmbcopaaGreatDoorPlCkY
namespace Go.PL
open Go
set_option maxRecDepth 100000
set_option linter.all false
set_option maxHeartbeats 1000000
abbrev NT:=List Int×List Int×List A7×List AM×List Cv×Int×Int×Int×Bool×Int×Int×Int×Int×Int×List Int×Int×Int×List Ag×Int×List Ar
def b88 (c:Az) (v:Int×NT):=Il c v.1 v.2.1 v.2.2.1 v.2.2.2.1 v.2.2.2.2.1 v.2.2.2.2.2.1 v.2.2.2.2.2.2.1 v.2.2.2.2.2.2.2.1 v.2.2.2.2.2.2.2.2.1 v.2.2.2.2.2.2.2.2.2.1 v.2.2.2.2.2.2.2.2.2.2.1 v.2.2.2.2.2.2.2.2.2.2.2.1 v.2.2.2.2.2.2.2.2.2.2.2.2.1 v.2.2.2.2.2.2.2.2.2.2.2.2.2.1 v.2.2.2.2.2.2.2.2.2.2.2.2.2.2.1 v.2.2.2.2.2.2.2.2.2.2.2.2.2.2.2.1 v.2.2.2.2.2.2.2.2.2.2.2.2.2.2.2.2.1 v.2.2.2.2.2.2.2.2.2.2.2.2.2.2.2.2.2.1 v.2.2.2.2.2.2.2.2.2.2.2.2.2.2.2.2.2.2.1 v.2.2.2.2.2.2.2.2.2.2.2.2.2.2.2.2.2.2.2.1 v.2.2.2.2.2.2.2.2.2.2.2.2.2.2.2.2.2.2.2.2
def xa (w:Int) (r:List Int×Int) (v:Int×NT):=Hf w r v.1 v.2.1 v.2.2.1 v.2.2.2.1 v.2.2.2.2.1 v.2.2.2.2.2.1 v.2.2.2.2.2.2.1 v.2.2.2.2.2.2.2.1 v.2.2.2.2.2.2.2.2.1 v.2.2.2.2.2.2.2.2.2.1 v.2.2.2.2.2.2.2.2.2.2.1 v.2.2.2.2.2.2.2.2.2.2.2.1 v.2.2.2.2.2.2.2.2.2.2.2.2.1 v.2.2.2.2.2.2.2.2.2.2.2.2.2.1 v.2.2.2.2.2.2.2.2.2.2.2.2.2.2.1 v.2.2.2.2.2.2.2.2.2.2.2.2.2.2.2.1 v.2.2.2.2.2.2.2.2.2.2.2.2.2.2.2.2.1 v.2.2.2.2.2.2.2.2.2.2.2.2.2.2.2.2.2.1 v.2.2.2.2.2.2.2.2.2.2.2.2.2.2.2.2.2.2.1 v.2.2.2.2.2.2.2.2.2.2.2.2.2.2.2.2.2.2.2.1 v.2.2.2.2.2.2.2.2.2.2.2.2.2.2.2.2.2.2.2.2
def pl0:Ar:=⟨20,0,0,⟨0,0,0,0,0,0⟩,false,false,[],[],[]⟩
def tt (l:List Int):Ar:=⟨20,0,0,⟨0,0,0,0,0,0⟩,false,false,l,[],[]⟩
def stN (f n q:Int) (os:List Ag) (ps:List Ar):Aa:=⟨ps,os,[],[],[],[],[],0,f,0,false,f,0,n,n,q,[],0, -1⟩
def nt (f n q:Int) (os:List Ag) (ps:List Ar):NT:=([],[],[],[],[],0,f,0,false,f,0,n,n,q,[],0, -1,os,(ps.length:Int),ps)
theorem Afv {k:Nat} {f s:Int} (hk:2<=k/\k<=4) (hf:0<=f/\f<k):Ua (k:Int) f s=some (stN f 1 s [] (List.replicate k pl0)):=by
 have h1:k=2\/k=3\/k=4:=by omega
 have h2:f=0\/f=1\/f=2\/f=3:=by omega
 rcases h1 with rfl | rfl | rfl<;>rcases h2 with rfl | rfl | rfl | rfl<;>first | omega | (change _=_;kernel_rfl)
def tu (id aiU p:Int):Ag:=⟨id,aiU,p,p,2,false,false,false,false,0,⟨0,0,0⟩,id, -1, -1,false,0,0⟩
def Jz (n p:Int) (l:List Int):List Ag:=l.mapIdx fun i c=>tu (n+i) c p
def Hi (n:Int) (k:Nat):List Int:=(List.range k).map fun(i:Nat)=>n+(i:Int)
theorem MF (n p:Int) (l:List Int):(Jz n p l).length =l.length:=by simp [Jz]
theorem th (n:Int) (k:Nat):(Hi n k).length =k:=by simp [Hi]
theorem oW (n:Int) (k:Nat):Hi n (k+1)=Hi n k++[n+(k:Int)]:=by simp [Hi,List.range_succ]
theorem tj (n p:Int) (l:List Int) (c:Int):Jz n p (l++[c])=Jz n p l++[tu (n+l.length) c p]:=by simp [Jz]
theorem AdN {f n q q1:Int} {os:List Ag} {ps:List Ar} {lib l:List Int} {p i:Nat} (hp:p<ps.length) (hq:ps[p]=tt lib) (hi:i<l.length) (hl:l.length<=1000) (ho:os.length<=10000) (hb:lib.length<=10000) (hn:0<=n/\n<=100000):
 xa (p:Int) (l,q1) ((i:Int),nt f n q os ps)=some (.inl (((i+1:Nat):Int),nt f (n+1) q (os++[tu n l[i] p]) (ps.set p (tt (lib++[n]))))):=by
 unfold xa Hf;dsimp only [nt];rw [if_pos (by simp;omega),AD hi];simp only [Option.bind_some];show (app 128 os [tu n l[i] p]).bind _=_;rw [nY (by simp;omega) (by omega)];simp only [Option.bind_some];rw [AD hp,hq];simp only [Option.bind_some];refine(nb (p:=(p:Int)<(ps.length:Int)) (by omega)).trans ?_;show (app 8 lib [n]).bind _=_;rw [nY (by simp;omega) (by omega)];simp only [Option.bind_some];refine(nb (p:=(p:Int)<(ps.length:Int)) (by omega)).trans ?_;refine(nb (p:=True) trivial).trans ?_;rw [Ao (by omega) (by omega),Ao (by omega) (by omega),List.length_set];rfl
theorem AdO {f n q q1:Int} {os:List Ag} {ps:List Ar} {l:List Int} {p:Nat} (hp:p<ps.length) (hq:ps[p]=pl0) (hl:l.length<=1000) (ho:os.length<=5000) (hn:0<=n/\n<=50000):
 iter (fun v=>xa (p:Int) (l,q1) v) FU (0,nt f n q os ps)=some (nt f (n+l.length) q (os++Jz n p l) (ps.set p (tt (Hi n l.length)))):=by
 refine FS (fun i=>((i:Int),nt f (n+i) q (os++Jz n p (l.take i)) (ps.set p (tt (Hi n i))))) l.length (by omega) (fun i hi=>?_) ?_ ?_
 ·have:=AdN (f:=f) (n:=n+i) (q:=q) (q1:=q1) (os:=os++Jz n p (l.take i)) (ps:=ps.set p (tt (Hi n i))) (lib:=Hi n i) (l:=l) (p:=p) (i:=i) (by simpa using hp) (by simp) hi hl (by rw [List.length_append,MF,List.length_take];omega) (by rw [th];omega) (by omega);grind [List.set_set,oW,List.take_succ_eq_append_getElem,tj]
 ·simp_all [xa,Hf]
 ·have e:ps.set p (tt (Hi n 0))=ps:=by rw [show tt (Hi n 0)=pl0 from rfl, <-hq,List.set_getElem_self]
  grind [Jz]
abbrev GS4:=Int×Int×List Ag×List Ar
def stp (c:Az) (p:Nat) (x:GS4):GS4:=match DT x.2.1 (c.h_.getD p [])with
 | some r=>(x.1+r.1.length,r.2,x.2.2.1++Jz x.1 p r.1,x.2.2.2.set p (tt (Hi x.1 r.1.length)))
 | none=>x
def B2 (c:Az):Nat->GS4
 | 0=>(1,c.ab2,[],List.replicate c.h_.length pl0)
 | p+1=>stp c p (B2 c p)
structure GOk (c:Az) (p:Nat) (x:GS4):Prop where
 n:1<=x.1/\x.1<=1+1000*p
 os:x.2.2.1.length<=1000*p
 len:x.2.2.2.length=c.h_.length
 pl: ∀ j:Nat,p<=j->(h:j<x.2.2.2.length)->x.2.2.2[j]=pl0
def ntG (f:Int) (x:GS4):NT:=nt f x.1 x.2.1 x.2.2.1 x.2.2.2
theorem Aar {c:Az} {p:Nat} {x:GS4} {l:List Int} {q1:Int} (ok:GOk c p x) (hlt:p<c.h_.length) (h4:p<=4) (hs:DT x.2.1 (c.h_.getD p [])=some (l,q1)) (hl:l.length<=900):
 b88 c ((p:Int),ntG c.Td x)=some (.inl (((p+1:Nat):Int),ntG c.Td (x.1+l.length,q1,x.2.2.1++Jz x.1 p l,x.2.2.2.set p (tt (Hi x.1 l.length))))):=by
 have h1:=ok.n;have h2:=ok.os;have h3:=ok.len;have hpl:=ok.pl p (by omega) (by omega);unfold b88 Il jn;dsimp only [ntG,nt];rw [if_pos (by simp;omega),AD hlt];simp only [Option.bind_some];rw [show c.h_[p]=c.h_.getD p [] by rw [List.getD_eq_getElem?_getD,List.getElem?_eq_getElem hlt];rfl,hs];show (iter (fun v=>xa (p:Int) (l,q1) v) FU (0,nt c.Td x.1 q1 x.2.2.1 x.2.2.2)).bind _=_;rw [AdO (by omega) hpl (by omega) (by omega) (by omega)];show some (Sum.inl (Ac ((p:Int)+1),_))=_;rw [Ao (by omega) (by omega)];rfl
theorem Abe {c:Az} (hd: ∀ d∈c.h_,d.length<=900): ∀ p:Nat,p<=c.h_.length->p<=4->GOk c p (B2 c p)/\(p<c.h_.length->b88 c ((p:Int),ntG c.Td (B2 c p))=some (.inl (((p+1:Nat):Int),ntG c.Td (B2 c (p+1)))))
 | p,hp,h4=>by
   have ok:GOk c p (B2 c p):=by
    cases p with
    | zero=>exact⟨(by grind [B2]),by simp [B2],by simp [B2],fun j _ h=>by simp [B2]⟩
    | succ p=>
      obtain⟨o, -⟩:=Abe hd p (by omega) (by omega);obtain⟨q1,l,hs,aeH⟩:=Aap (l:=c.h_.getD p []) (s:=(B2 c p).2.1) (by grind);have hl:l.length<=900:=by rw [aeH.length_eq,List.getD_eq_getElem?_getD,List.getElem?_eq_getElem (by omega)];grind
      have e:B2 c (p+1)=((B2 c p).1+l.length,q1,(B2 c p).2.2.1++Jz (B2 c p).1 p l,(B2 c p).2.2.2.set p (tt (Hi (B2 c p).1 l.length))):=by grind [stp,B2]
      have h1:=o.n;have h2:=o.os;have h3:=o.len;rw [e];refine⟨?_,?_,?_,fun j hj h=>?_⟩
      ·grind
      ·grind [MF]
      ·grind
      ·dsimp only at h ⊢;rw [List.getElem_set_ne (by omega)];exact o.pl j (by omega) _
   refine⟨ok,fun hlt=>?_⟩;obtain⟨q1,l,hs,aeH⟩:=Aap (l:=c.h_.getD p []) (s:=(B2 c p).2.1) (by rw [List.getD_eq_getElem?_getD,List.getElem?_eq_getElem (by omega)];exact hd _ (List.getElem_mem _));have hl:l.length<=900:=by rw [aeH.length_eq,List.getD_eq_getElem?_getD,List.getElem?_eq_getElem (by omega)];grind
   grind [B2,stp,Aar]
def lQ (c:Az):Aa:=stN c.Td (B2 c c.h_.length).1 (B2 c c.h_.length).2.1 (B2 c c.h_.length).2.2.1 (B2 c c.h_.length).2.2.2
theorem oX {c:Az} (h:bj c=0):(Ns c.C_).2=0/\(2<=c.h_.length/\c.h_.length<=4/\0<=c.Td/\c.Td<c.h_.length)/\(∀ d∈c.h_,d.length<=250)/\ ∀ d∈c.h_, ∀ n∈d,Wh c n=false:=by
 unfold bj at h;split at h
 ·omega
 ·split at h
  ·cases h
  ·split at h
   ·cases h
   ·split at h
    ·cases h
    ·rename_i h1 h2 h3 h4;refine⟨by omega,by simpa [qC] using h2,fun d hd=>?_,fun d hd n hn=>?_⟩
     ·by_cases q:d.length<=250
      ·exact q
      ·exact absurd (List.any_eq_true.2 ⟨d,hd,decide_eq_true (by omega)⟩) h3
     grind
theorem Afw {c:Az} (hc:w8 c): ∃ s,Ec c=some (s,bj c)/\(bj c=0->s=lQ c):=by
 unfold Ec;rw [w9 hc];simp only [Option.bind_some];by_cases h:bj c=0
 ·obtain⟨h1,⟨h2,h3,h4,h5⟩,h6,h7⟩:=oX h;rw [if_neg (by simp [h]),Afv ⟨h2,h3⟩ ⟨h4,h5⟩,h];refine⟨lQ c,?_,fun _=>rfl⟩;have hd: ∀ d∈c.h_,d.length<=900:=(by grind);show (iter (fun v=>b88 c v) FU (0,ntG c.Td (B2 c 0))).bind _=_;rw [FS (s0:=(0,ntG c.Td (B2 c 0))) (fun p=>((p:Int),ntG c.Td (B2 c p))) c.h_.length (by omega) (by grind [Abe]) (r:=ntG c.Td (B2 c c.h_.length)) (by
   simp_all [b88,Il]) rfl]
  rfl
 simp_all
end Go.PL
