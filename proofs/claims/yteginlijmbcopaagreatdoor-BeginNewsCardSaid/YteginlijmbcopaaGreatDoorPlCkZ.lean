/- Plain laws of games that begin: the new game. -/
import Derived.Test.YteginlijmbcopaaGreatDoorPlCkY
namespace Go.PL
open Go
set_option maxRecDepth 100000
set_option linter.all false
set_option maxHeartbeats 1000000
abbrev NT:=List Int×List Int×List AK×List Ax×List Bn×Int×Int×Int×Bool×Int×Int×Int×Int×Int×List Int×Int×Int×List Am×Int×List Al
def b88 (c:AA) (v:Int×NT):=D4 c v.1 v.2.1 v.2.2.1 v.2.2.2.1 v.2.2.2.2.1 v.2.2.2.2.2.1 v.2.2.2.2.2.2.1 v.2.2.2.2.2.2.2.1 v.2.2.2.2.2.2.2.2.1 v.2.2.2.2.2.2.2.2.2.1 v.2.2.2.2.2.2.2.2.2.2.1 v.2.2.2.2.2.2.2.2.2.2.2.1 v.2.2.2.2.2.2.2.2.2.2.2.2.1 v.2.2.2.2.2.2.2.2.2.2.2.2.2.1 v.2.2.2.2.2.2.2.2.2.2.2.2.2.2.1 v.2.2.2.2.2.2.2.2.2.2.2.2.2.2.2.1 v.2.2.2.2.2.2.2.2.2.2.2.2.2.2.2.2.1 v.2.2.2.2.2.2.2.2.2.2.2.2.2.2.2.2.2.1 v.2.2.2.2.2.2.2.2.2.2.2.2.2.2.2.2.2.2.1 v.2.2.2.2.2.2.2.2.2.2.2.2.2.2.2.2.2.2.2.1 v.2.2.2.2.2.2.2.2.2.2.2.2.2.2.2.2.2.2.2.2
def AaW (w:Int) (r:List Int×Int) (v:Int×NT):=Dy w r v.1 v.2.1 v.2.2.1 v.2.2.2.1 v.2.2.2.2.1 v.2.2.2.2.2.1 v.2.2.2.2.2.2.1 v.2.2.2.2.2.2.2.1 v.2.2.2.2.2.2.2.2.1 v.2.2.2.2.2.2.2.2.2.1 v.2.2.2.2.2.2.2.2.2.2.1 v.2.2.2.2.2.2.2.2.2.2.2.1 v.2.2.2.2.2.2.2.2.2.2.2.2.1 v.2.2.2.2.2.2.2.2.2.2.2.2.2.1 v.2.2.2.2.2.2.2.2.2.2.2.2.2.2.1 v.2.2.2.2.2.2.2.2.2.2.2.2.2.2.2.1 v.2.2.2.2.2.2.2.2.2.2.2.2.2.2.2.2.1 v.2.2.2.2.2.2.2.2.2.2.2.2.2.2.2.2.2.1 v.2.2.2.2.2.2.2.2.2.2.2.2.2.2.2.2.2.2.1 v.2.2.2.2.2.2.2.2.2.2.2.2.2.2.2.2.2.2.2.1 v.2.2.2.2.2.2.2.2.2.2.2.2.2.2.2.2.2.2.2.2
def pl0:Al:=⟨20,0,0,⟨0,0,0,0,0,0⟩,false,false,[],[],[]⟩
def plL (l:List Int):Al:=⟨20,0,0,⟨0,0,0,0,0,0⟩,false,false,l,[],[]⟩
def stN (f n q:Int) (os:List Am) (ps:List Al):Ai:=⟨ps,os,[],[],[],[],[],0,f,0,false,f,0,n,n,q,[],0, -1⟩
def nt (f n q:Int) (os:List Am) (ps:List Al):NT:=([],[],[],[],[],0,f,0,false,f,0,n,n,q,[],0, -1,os,(ps.length:Int),ps)
theorem Aes {k:Nat} {f s:Int} (hk:2<=k/\k<=4) (hf:0<=f/\f<k):VP (k:Int) f s=some (stN f 1 s [] (List.replicate k pl0)):=by
 have h1:k=2\/k=3\/k=4:=by omega
 have h2:f=0\/f=1\/f=2\/f=3:=by omega
 rcases h1 with rfl | rfl | rfl<;>rcases h2 with rfl | rfl | rfl | rfl<;>first | omega | (change _=_;kernel_rfl)
def obN (id aiN p:Int):Am:=⟨id,aiN,p,p,2,false,false,false,false,0,⟨0,0,0⟩,id, -1, -1,false,0,0⟩
def Wt (n p:Int) (l:List Int):List Am:=l.mapIdx fun i c=>obN (n+i) c p
def Jb (n:Int) (k:Nat):List Int:=(List.range k).map fun(i:Nat)=>n+(i:Int)
theorem pU (n p:Int) (l:List Int):(Wt n p l).length =l.length:=by simp [Wt]
theorem iP (n:Int) (k:Nat):(Jb n k).length =k:=by simp [Jb]
theorem tj (n:Int) (k:Nat):Jb n (k+1)=Jb n k++[n+(k:Int)]:=by simp [Jb,List.range_succ]
theorem xm (n p:Int) (l:List Int) (c:Int):Wt n p (l++[c])=Wt n p l++[obN (n+l.length) c p]:=by simp [Wt]
theorem AgN {f n q q1:Int} {os:List Am} {ps:List Al} {lib l:List Int} {p i:Nat} (hp:p<ps.length) (hq:ps[p]=plL lib) (hi:i<l.length) (hl:l.length<=1000) (ho:os.length<=10000) (hb:lib.length<=10000) (hn:0<=n/\n<=100000):
 AaW (p:Int) (l,q1) ((i:Int),nt f n q os ps)=some (.inl (((i+1:Nat):Int),nt f (n+1) q (os++[obN n l[i] p]) (ps.set p (plL (lib++[n]))))):=by
 unfold AaW Dy;dsimp only [nt];rw [if_pos (by simp;omega),BU hi];simp only [Option.bind_some];show (app 128 os [obN n l[i] p]).bind _=_;rw [AhI (by simp;omega) (by omega)];simp only [Option.bind_some];rw [BU hp,hq];simp only [Option.bind_some];refine(nb (p:=(p:Int)<(ps.length:Int)) (by omega)).trans ?_;show (app 8 lib [n]).bind _=_;rw [AhI (by simp;omega) (by omega)];simp only [Option.bind_some];refine(nb (p:=(p:Int)<(ps.length:Int)) (by omega)).trans ?_;refine(nb (p:=True) trivial).trans ?_;rw [A7 (by omega) (by omega),A7 (by omega) (by omega),List.length_set];rfl
theorem AgO {f n q q1:Int} {os:List Am} {ps:List Al} {l:List Int} {p:Nat} (hp:p<ps.length) (hq:ps[p]=pl0) (hl:l.length<=1000) (ho:os.length<=5000) (hn:0<=n/\n<=50000):
 iter (fun v=>AaW (p:Int) (l,q1) v) FU (0,nt f n q os ps)=some (nt f (n+l.length) q (os++Wt n p l) (ps.set p (plL (Jb n l.length)))):=by
 refine YI (fun i=>((i:Int),nt f (n+i) q (os++Wt n p (l.take i)) (ps.set p (plL (Jb n i))))) l.length (by omega) (fun i hi=>?_) ?_ ?_
 ·have:=AgN (f:=f) (n:=n+i) (q:=q) (q1:=q1) (os:=os++Wt n p (l.take i)) (ps:=ps.set p (plL (Jb n i))) (lib:=Jb n i) (l:=l) (p:=p) (i:=i) (by simpa using hp) (by simp) hi hl (by rw [List.length_append,pU,List.length_take];omega) (by rw [iP];omega) (by omega);grind [List.set_set,tj,List.take_succ_eq_append_getElem,xm]
 ·simp_all [AaW,Dy]
 ·have e:ps.set p (plL (Jb n 0))=ps:=by rw [show plL (Jb n 0)=pl0 from rfl, <-hq,List.set_getElem_self]
  grind [Wt]
abbrev GS4:=Int×Int×List Am×List Al
def stp (c:AA) (p:Nat) (x:GS4):GS4:=match CP x.2.1 (c.i_.getD p [])with
 | some r=>(x.1+r.1.length,r.2,x.2.2.1++Wt x.1 p r.1,x.2.2.2.set p (plL (Jb x.1 r.1.length)))
 | none=>x
def DW (c:AA):Nat->GS4
 | 0=>(1,c.adt,[],List.replicate c.i_.length pl0)
 | p+1=>stp c p (DW c p)
structure GOk (c:AA) (p:Nat) (x:GS4):Prop where
 n:1<=x.1/\x.1<=1+1000*p
 os:x.2.2.1.length<=1000*p
 len:x.2.2.2.length=c.i_.length
 pl: ∀ j:Nat,p<=j->(h:j<x.2.2.2.length)->x.2.2.2[j]=pl0
def ntG (f:Int) (x:GS4):NT:=nt f x.1 x.2.1 x.2.2.1 x.2.2.2
theorem AdD {c:AA} {p:Nat} {x:GS4} {l:List Int} {q1:Int} (ok:GOk c p x) (hlt:p<c.i_.length) (h4:p<=4) (hs:CP x.2.1 (c.i_.getD p [])=some (l,q1)) (hl:l.length<=900):
 b88 c ((p:Int),ntG c.aaX x)=some (.inl (((p+1:Nat):Int),ntG c.aaX (x.1+l.length,q1,x.2.2.1++Wt x.1 p l,x.2.2.2.set p (plL (Jb x.1 l.length))))):=by
 have h1:=ok.n;have h2:=ok.os;have h3:=ok.len;have hpl:=ok.pl p (by omega) (by omega);unfold b88 D4 jn;dsimp only [ntG,nt];rw [if_pos (by simp;omega),BU hlt];simp only [Option.bind_some];rw [show c.i_[p]=c.i_.getD p [] by rw [List.getD_eq_getElem?_getD,List.getElem?_eq_getElem hlt];rfl,hs];show (iter (fun v=>AaW (p:Int) (l,q1) v) FU (0,nt c.aaX x.1 q1 x.2.2.1 x.2.2.2)).bind _=_;rw [AgO (by omega) hpl (by omega) (by omega) (by omega)];show some (Sum.inl (Aa ((p:Int)+1),_))=_;rw [A7 (by omega) (by omega)];rfl
theorem AaY {c:AA} (hd: ∀ d∈c.i_,d.length<=900): ∀ p:Nat,p<=c.i_.length->p<=4->GOk c p (DW c p)/\(p<c.i_.length->b88 c ((p:Int),ntG c.aaX (DW c p))=some (.inl (((p+1:Nat):Int),ntG c.aaX (DW c (p+1)))))
 | p,hp,h4=>by
   have ok:GOk c p (DW c p):=by
    cases p with
    | zero=>exact⟨(by grind [DW]),by simp [DW],by simp [DW],fun j _ h=>by simp [DW]⟩
    | succ p=>
      obtain⟨o, -⟩:=AaY hd p (by omega) (by omega);obtain⟨q1,l,hs,akh⟩:=AgM (l:=c.i_.getD p []) (s:=(DW c p).2.1) (by grind);have hl:l.length<=900:=by rw [akh.length_eq,List.getD_eq_getElem?_getD,List.getElem?_eq_getElem (by omega)];grind
      have e:DW c (p+1)=((DW c p).1+l.length,q1,(DW c p).2.2.1++Wt (DW c p).1 p l,(DW c p).2.2.2.set p (plL (Jb (DW c p).1 l.length))):=by grind [stp,DW]
      have h1:=o.n;have h2:=o.os;have h3:=o.len;rw [e];refine⟨?_,?_,?_,fun j hj h=>?_⟩
      ·grind
      ·grind [pU]
      ·grind
      ·dsimp only at h ⊢;rw [List.getElem_set_ne (by omega)];exact o.pl j (by omega) _
   refine⟨ok,fun hlt=>?_⟩;obtain⟨q1,l,hs,akh⟩:=AgM (l:=c.i_.getD p []) (s:=(DW c p).2.1) (by rw [List.getD_eq_getElem?_getD,List.getElem?_eq_getElem (by omega)];exact hd _ (List.getElem_mem _));have hl:l.length<=900:=by rw [akh.length_eq,List.getD_eq_getElem?_getD,List.getElem?_eq_getElem (by omega)];grind
   grind [DW,stp,AdD]
def AdE (c:AA):Ai:=stN c.aaX (DW c c.i_.length).1 (DW c c.i_.length).2.1 (DW c c.i_.length).2.2.1 (DW c c.i_.length).2.2.2
theorem tk {c:AA} (h:Ws c=0):(L5 c.aaG).2=0/\(2<=c.i_.length/\c.i_.length<=4/\0<=c.aaX/\c.aaX<c.i_.length)/\(∀ d∈c.i_,d.length<=250)/\ ∀ d∈c.i_, ∀ n∈d,tf c n=false:=by
 unfold Ws at h;split at h
 ·omega
 ·split at h
  ·cases h
  ·split at h
   ·cases h
   ·split at h
    ·cases h
    ·rename_i h1 h2 h3 h4;refine⟨by omega,by simpa [uZ] using h2,fun d hd=>?_,fun d hd n hn=>?_⟩
     ·by_cases q:d.length<=250
      ·exact q
      ·exact absurd (List.any_eq_true.2 ⟨d,hd,decide_eq_true (by omega)⟩) h3
     grind
theorem Aiw {c:AA} (hc:th c): ∃ s,Dz c=some (s,Ws c)/\(Ws c=0->s=AdE c):=by
 unfold Dz;rw [lF hc];simp only [Option.bind_some];by_cases h:Ws c=0
 ·obtain⟨h1,⟨h2,h3,h4,h5⟩,h6,h7⟩:=tk h;rw [if_neg (by simp [h]),Aes ⟨h2,h3⟩ ⟨h4,h5⟩,h];refine⟨AdE c,?_,fun _=>rfl⟩;have hd: ∀ d∈c.i_,d.length<=900:=(by grind);show (iter (fun v=>b88 c v) FU (0,ntG c.aaX (DW c 0))).bind _=_;rw [YI (s0:=(0,ntG c.aaX (DW c 0))) (fun p=>((p:Int),ntG c.aaX (DW c p))) c.i_.length (by omega) (by grind [AaY]) (r:=ntG c.aaX (DW c c.i_.length)) (by
   simp_all [b88,D4]) rfl]
  rfl
 simp_all
end Go.PL
