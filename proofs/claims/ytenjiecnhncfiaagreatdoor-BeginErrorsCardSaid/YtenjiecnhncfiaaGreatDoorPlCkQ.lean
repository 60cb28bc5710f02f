/- Plain laws of states: costs and pools. -/
import Derived.Test.YtenjiecnhncfiaaGreatDoorPlCkP
open List (length_append)
namespace Go.PL
open Go
set_option maxRecDepth 100000
set_option linter.all false
set_option maxHeartbeats 1000000
def KU:Nat:=9223372036854775800
theorem FU7:FU=KU+1+1+1+1+1+1+1:=rfl
def R2 (m n:Int):Bool:=if decide (n<0) then true else decide (m<n)
theorem Agj {m n:Int}:R2 m n=false↔0<=n/\n<=m:=by unfold R2;by_cases h:n<0<;>simp [h]<;>omega
def nY (c:AB):Bool:=R2 9 c.Color.x0||(R2 9 c.Color.x1||(R2 9 c.Color.x2||(R2 9 c.Color.x3||R2 9 c.Color.x4)))
def oF (c:AB):Bool:= !nY c&&(decide (0<=c.Generic)&&(decide (c.Generic<=99)&&(decide (0<=c.X)&&decide (c.X<=2))))
theorem vg (c:AB):Ev c 0=(if R2 9 c.Color.x0=true then some (.inr (.inr false))else some (.inl 1)):=by kernel_rfl
theorem yB (c:AB):Ev c 1=(if R2 9 c.Color.x1=true then some (.inr (.inr false))else some (.inl 2)):=by kernel_rfl
theorem Abp (c:AB):Ev c 2=(if R2 9 c.Color.x2=true then some (.inr (.inr false))else some (.inl 3)):=by kernel_rfl
theorem AeN (c:AB):Ev c 3=(if R2 9 c.Color.x3=true then some (.inr (.inr false))else some (.inl 4)):=by kernel_rfl
theorem Agk (c:AB):Ev c 4=(if R2 9 c.Color.x4=true then some (.inr (.inr false))else some (.inl 5)):=by kernel_rfl
theorem Ah0 (c:AB):Ev c 5=some (.inr (.inl ())):=by kernel_rfl
theorem Abq (c:AB):iter (fun(v:Int)=>Ev c v) FU 0=some (if nY c=true then .inr false else .inl ()):=by
 rw [FU7];unfold nY;cases h0:R2 9 c.Color.x0
 ·cases h1:R2 9 c.Color.x1
  ·cases h2:R2 9 c.Color.x2
   ·cases h3:R2 9 c.Color.x3
    ·cases h4:R2 9 c.Color.x4
     ·simp [iter,vg,yB,Abp,AeN,Agk,Ah0,h0,h1,h2,h3,h4]
     ·simp [iter,vg,yB,Abp,AeN,Agk,h0,h1,h2,h3,h4]
    ·simp [iter,vg,yB,Abp,AeN,h0,h1,h2,h3]
   ·simp [iter,vg,yB,Abp,h0,h1,h2]
  ·simp [iter,vg,yB,h0,h1]
 ·simp [iter,vg,h0]
theorem kB (c:AB):Qb c=some (oF c):=by
 unfold Qb oF jn;rw [Abq];cases nY c
 ·simp only [bl,Option.bind_some,Sum.elim_inl,Bool.false_eq_true,if_false,Bool.not_false,Bool.true_and];by_cases h1:0<=c.Generic<;>by_cases h2:c.Generic<=99<;>by_cases h3:0<=c.X<;>simp [h1,h2,h3]
 ·rfl
theorem rb (m e:Int):(if decide (e<(0:Int)) then true else decide (m<e))=R2 m e:=rfl
theorem rIs (c:AB) (k:Int) (e:Int) (hk:k<5) (h:idx c.Color.l k=some e):DZ c k=(if R2 9 e=true then some (.inr (.inr false))else some (.inl (Ad (k+1)))):=by
 unfold DZ R2;rw [if_pos (by simpa using hk)];by_cases q:e<0
 ·simp [h,gd,q,show ¬(0:Int)<=e by omega]
 ·simp [h,gd,q,show (0:Int)<=e by omega]
theorem vh (c:AB):DZ c 0=(if R2 9 c.Color.x0=true then some (.inr (.inr false))else some (.inl 1)):=rIs c 0 _ (by omega) (by kernel_rfl)
theorem yC (c:AB):DZ c 1=(if R2 9 c.Color.x1=true then some (.inr (.inr false))else some (.inl 2)):=rIs c 1 _ (by omega) (by kernel_rfl)
theorem Abr (c:AB):DZ c 2=(if R2 9 c.Color.x2=true then some (.inr (.inr false))else some (.inl 3)):=rIs c 2 _ (by omega) (by kernel_rfl)
theorem AeO (c:AB):DZ c 3=(if R2 9 c.Color.x3=true then some (.inr (.inr false))else some (.inl 4)):=rIs c 3 _ (by omega) (by kernel_rfl)
theorem Agm (c:AB):DZ c 4=(if R2 9 c.Color.x4=true then some (.inr (.inr false))else some (.inl 5)):=rIs c 4 _ (by omega) (by kernel_rfl)
theorem Ah1 (c:AB):DZ c 5=some (.inr (.inl ())):=by kernel_rfl
theorem yD (c:AB):iter (fun(v:Int)=>DZ c v) FU 0=some (if nY c=true then .inr false else .inl ()):=by
 rw [FU7];unfold nY;cases h0:R2 9 c.Color.x0
 ·cases h1:R2 9 c.Color.x1
  ·cases h2:R2 9 c.Color.x2
   ·cases h3:R2 9 c.Color.x3
    ·cases h4:R2 9 c.Color.x4
     ·simp [iter,vh,yC,Abr,AeO,Agm,Ah1,h0,h1,h2,h3,h4]
     ·simp [iter,vh,yC,Abr,AeO,Agm,h0,h1,h2,h3,h4]
    ·simp [iter,vh,yC,Abr,AeO,h0,h1,h2,h3]
   ·simp [iter,vh,yC,Abr,h0,h1,h2]
  ·simp [iter,vh,yC,h0,h1]
 ·simp [iter,vh,h0]
theorem Uq (c:AB):VI c=some (oF c):=by
 unfold VI oF jn;rw [yD];by_cases h1:c.Generic<0<;>by_cases h2:99<c.Generic<;>by_cases h3:c.X<0<;>by_cases h4:2<c.X<;>
  simp [h1,h2,h3,h4,show (0<=c.Generic)= ¬(c.Generic<0)from by simp,show (c.Generic<=99)= ¬(99<c.Generic)from by simp,show (0<=c.X)= ¬(c.X<0)from by simp,show (c.X<=2)= ¬(2<c.X)from by simp,gQ,jn]<;>cases nY c<;>rfl
structure Ok (c:AB):Prop where
 c0:0<=c.Color.x0/\c.Color.x0<=9
 c1:0<=c.Color.x1/\c.Color.x1<=9
 c2:0<=c.Color.x2/\c.Color.x2<=9
 c3:0<=c.Color.x3/\c.Color.x3<=9
 c4:0<=c.Color.x4/\c.Color.x4<=9
 g:0<=c.Generic/\c.Generic<=99
 x:0<=c.X/\c.X<=2
theorem kC {c:AB} (h:oF c=true):Ok c:=by unfold oF at h;simp only [Bool.and_eq_true,Bool.not_eq_true',decide_eq_true_eq]at h;obtain⟨h1,h2,h3,h4,h5⟩:=h;unfold nY at h1;simp only [Bool.or_eq_false_iff,Agj]at h1;obtain⟨a,b,c',d,e⟩:=h1;exact⟨a,b,c',d,e,⟨h2,h3⟩,⟨h4,h5⟩⟩
theorem yE (n:Int):Dy n=sG n:=by kernel_rfl
theorem rl {n:Int} (h0: -9223372036854775808<=n) (h1:n<=9223372036854775807):Dy n=some (Lib.itoa n):=by rw [yE,mN h0 h1]
theorem rm {n:Int} (h0: -9223372036854775808<=n) (h1:n<=9223372036854775807):Dd n=some (Lib.itoa n):=by unfold Dd gA;rw [if_pos ⟨h0,h1⟩];rfl
def dl (n:Int) (b:UInt8):List UInt8:=List.replicate n.toNat b
theorem Jm (n:Int) (b:UInt8):(dl n b).length =n.toNat:=by simp [dl]
theorem sX (b:UInt8): ∀ n,Lib.repeatL [b] n=List.replicate n b
 | 0=>rfl
 | n+1=>by show [b]++Lib.repeatL [b] n=_;rw [sX b n];rfl
theorem Agn {b:UInt8} {n:Int} (h:0<=n/\n<=1000):K8 [b] n=some (dl n b):=by unfold K8;rw [if_pos ⟨h.1,by omega,by simp;omega⟩,sX];rfl
def gtx (g:Int):List UInt8:=if 0<g then Lib.itoa g else []
def oG (c:AB):List UInt8:=dl c.X 88++gtx c.Generic
def tx1 (c:AB):List UInt8:=oG c++dl c.Color.x0 65
def tx2 (c:AB):List UInt8:=tx1 c++dl c.Color.x1 67
def tx3 (c:AB):List UInt8:=tx2 c++dl c.Color.x2 74
def tx4 (c:AB):List UInt8:=tx3 c++dl c.Color.x3 82
def zk (c:AB):List UInt8:=tx4 c++dl c.Color.x4 69
theorem Abt {g:Int} (h:0<=g/\g<=99):(gtx g).length <=21:=by
 unfold gtx;split
 ·exact SQ (by omega) (by omega)
 ·simp
theorem kD {c:AB} (h:Ok c):(oG c).length <=23/\(tx1 c).length <=32/\(tx2 c).length <=41/\(tx3 c).length <=50/\(tx4 c).length <=59/\(zk c).length <=68:=by
 have a:=h.c0;have b:=h.c1;have d:=h.c2;have e:=h.c3;have f:=h.c4;have g:=h.g;have x:=h.x;have hg:=Abt g;have h0:(oG c).length <=23:=by unfold oG;rw [length_append,Jm];omega
 have h1:(tx1 c).length <=32:=by unfold tx1;rw [length_append,Jm];omega
 have h2:(tx2 c).length <=41:=by unfold tx2;rw [length_append,Jm];omega
 have h3:(tx3 c).length <=50:=by unfold tx3;rw [length_append,Jm];omega
 have h4:(tx4 c).length <=59:=by unfold tx4;rw [length_append,Jm];omega
 exact⟨h0,h1,h2,h3,h4,by unfold zk;rw [length_append,Jm];omega⟩
theorem tB {c:AB} {s:List UInt8} {k e:Int} {b:UInt8} (hk:k<5) (h:idx c.Color.l k=some e) (h2:Zq Mi k (Ad (k+1))=some [b]) (he:0<=e/\e<=9) (hs:s.length<=1000):
 HY c s k=some (.inl (s++dl e b,Ad (k+1))):=by
 unfold HY;rw [if_pos (by simpa using hk),h,h2];simp only [Option.bind_some];rw [Agn (by omega)];simp only [Option.bind_some];rw [In (by rw [Jm];simp [maxLen];omega)];rfl
theorem yF {c:AB} (h:Ok c):iter (fun(v:(List UInt8)×Int)=>HY c v.1 v.2) FU (oG c,0)=some (zk c):=by obtain⟨l0,l1,l2,l3,l4,l5⟩:=kD h;rw [FU7];rw [CH (s':=(tx1 c,1)) (tB (by omega) (by kernel_rfl) (by kernel_rfl) h.c0 (by dsimp only;omega))];rw [CH (s':=(tx2 c,2)) (tB (by omega) (by kernel_rfl) (by kernel_rfl) h.c1 (by dsimp only;omega))];rw [CH (s':=(tx3 c,3)) (tB (by omega) (by kernel_rfl) (by kernel_rfl) h.c2 (by dsimp only;omega))];rw [CH (s':=(tx4 c,4)) (tB (by omega) (by kernel_rfl) (by kernel_rfl) h.c3 (by dsimp only;omega))];rw [CH (s':=(zk c,5)) (tB (by omega) (by kernel_rfl) (by kernel_rfl) h.c4 (by dsimp only;omega))];exact Cr (by kernel_rfl)
def zC':AB:=⟨0,0,⟨0,0,0,0,0⟩⟩
def QM (c:AB):List UInt8:=if oF c=false then [] else if c=zC' then gI else zk c
theorem sY (c:AB):Mt c=some (QM c):=by
 unfold Mt QM jn;rw [kB];cases hs:oF c
 ·rfl
 ·have h:=kC hs;simp only [Option.bind_some,Bool.not_true,Bool.false_eq_true,if_false,Bool.true_eq_false];rw [show (⟨0,0,⟨0,0,0,0,0⟩⟩:AB)=zC' from rfl];by_cases hz:c=zC'
  ·rw [if_pos (beq_iff_eq.2 hz),if_pos hz]
  ·rw [if_neg (fun q=>hz (beq_iff_eq.1 q)),if_neg hz];have hr:K8 sN c.X=some (dl c.X 88):=Agn (b:=88) (by have:=h.x;omega);rw [hr];simp only [Option.bind_some];have hg:=h.g;by_cases h0:0<c.Generic
   ·have e:oG c=dl c.X 88++Lib.itoa c.Generic:=by unfold oG gtx;rw [if_pos h0]
    rw [if_pos (by simpa using h0),rm (by omega) (by omega)];simp only [Option.bind_some];rw [In (by rw [Jm];have:=SQ (n:=c.Generic) (by omega) (by omega);have:=h.x;simp [maxLen];omega), <-e];simp only [Option.bind_some,jn,ND,yF h,NC]
   ·have e:oG c=dl c.X 88:=by unfold oG gtx;rw [if_neg h0,List.append_nil]
    rw [if_neg (by simpa using h0), <-e];simp only [Option.bind_some,jn,ND,yF h,NC]
theorem nZ {B:(List UInt8)×Int->Option (((List UInt8)×Int)⊕(List UInt8))} {s:List UInt8} {n:Int} {b:UInt8} (hn:0<=n/\n<=1000)
 (hgo: ∀ (t:List UInt8) (k:Int),t.length<=s.length+1000->0<=k->k<n->B (t,k)=some (.inl (t++[b],k+1))) (axE: ∀ t,B (t,n)=some (.inr t)):
 iter B FU (s,0)=some (s++dl n b):=by
 refine SO (fun i=>(s++List.replicate i b,(i:Int))) n.toNat (by omega) (fun i hi=>?_) ?_ (by simp)
 ·rw [hgo _ _ (by simp;omega) (by omega) (by omega),List.append_assoc, <-List.replicate_succ'];rfl
 ·rw [show ((n.toNat:Nat):Int)=n by omega];exact axE _
theorem yG {c:AB} {s:List UInt8} {k e:Int} {b:UInt8} (h:idx c.Color.l k=some e) (h2:Zq Mi k (Ad (k+1))=some [b]) (he:0<=e/\e<=9) (hs:s.length<=1000):
 iter (fun(v:(List UInt8)×Int)=>EU c k v.1 v.2) FU (s,0)=some (s++dl e b):=by
 refine nZ (by omega) (fun t j ht h0 h1=>?_) (fun t=>?_)
 ·show EU c k t j=_;unfold EU;rw [h];simp only [Option.bind_some];rw [if_pos (by simpa using h1),h2];simp only [Option.bind_some];rw [In (by simp [maxLen];omega),AU (by omega) (by omega)];rfl
 ·show EU c k t e=_;unfold EU;rw [h];simp only [Option.bind_some];rw [if_neg (by simp)]
theorem rtB {c:AB} {s:List UInt8} {k e:Int} {b:UInt8} (hk:k<5) (h:idx c.Color.l k=some e) (h2:Zq Mi k (Ad (k+1))=some [b]) (he:0<=e/\e<=9) (hs:s.length<=1000):
 Jj c s k=some (.inl (s++dl e b,Ad (k+1))):=by
 unfold Jj jn;rw [if_pos (by simpa using hk),yG h h2 he hs];rfl
theorem Abu {c:AB} (h:Ok c):iter (fun(v:(List UInt8)×Int)=>Jj c v.1 v.2) FU (oG c,0)=some (zk c):=by obtain⟨l0,l1,l2,l3,l4,l5⟩:=kD h;rw [FU7];rw [CH (s':=(tx1 c,1)) (rtB (by omega) (by kernel_rfl) (by kernel_rfl) h.c0 (by dsimp only;omega))];rw [CH (s':=(tx2 c,2)) (rtB (by omega) (by kernel_rfl) (by kernel_rfl) h.c1 (by dsimp only;omega))];rw [CH (s':=(tx3 c,3)) (rtB (by omega) (by kernel_rfl) (by kernel_rfl) h.c2 (by dsimp only;omega))];rw [CH (s':=(tx4 c,4)) (rtB (by omega) (by kernel_rfl) (by kernel_rfl) h.c3 (by dsimp only;omega))];rw [CH (s':=(zk c,5)) (rtB (by omega) (by kernel_rfl) (by kernel_rfl) h.c4 (by dsimp only;omega))];exact Cr (by kernel_rfl)
theorem Abv {c:AB} (h:Ok c):iter (fun(v:(List UInt8)×Int)=>EV c v.1 v.2) FU ([],0)=some (dl c.X 88):=by
 have hx:=h.x;refine(nZ (s:=[]) (n:=c.X) (b:=88) (by omega) (fun t j ht h0 h1=>?_) (fun t=>?_)).trans (by simp)
 ·show EV c t j=_;unfold EV;rw [if_pos (by simpa using h1),In (by simp at ht;simp [maxLen,sN];omega),AU (by omega) (by omega)];rfl
 ·show EV c t c.X=_;unfold EV;rw [if_neg (by simp)]
theorem kE (n:Nat):Lib.decDigits n ≠ []:=by rw [Lib.decDigits];split<;>simp
theorem Abw (n:Int):Lib.itoa n ≠ []:=by
 unfold Lib.itoa;split
 ·simp
 ·exact kE _
theorem Wb {n:Int} {b:UInt8} (h0:0<=n):dl n b=[]↔n=0:=by unfold dl;rw [List.replicate_eq_nil_iff];omega
theorem kF {c:AB} (h:Ok c):zk c=[]↔c=zC':=by
 have hg:gtx c.Generic=[]↔c.Generic=0:=by
  have:=h.g;unfold gtx;by_cases h0:0<c.Generic
  ·rw [if_pos h0];exact⟨fun q=>(Abw _ q).elim,fun q=>by omega⟩
  ·rw [if_neg h0];exact⟨fun _=>by omega,fun _=>rfl⟩
 unfold zk tx4 tx3 tx2 tx1 oG;simp only [List.append_eq_nil_iff,Wb h.x.1,Wb h.c0.1,Wb h.c1.1,Wb h.c2.1,Wb h.c3.1,Wb h.c4.1,hg];obtain⟨g,x,⟨a,b,d,e,f⟩⟩:=c;unfold zC';simp only [AB.mk.injEq,A5.mk.injEq];constructor
 ·rintro⟨⟨⟨⟨⟨⟨h1,h2⟩,h3⟩,h4⟩,h5⟩,h6⟩,h7⟩;exact⟨h2,h1,h3,h4,h5,h6,h7⟩
 ·rintro⟨h2,h1,h3,h4,h5,h6,h7⟩;exact⟨⟨⟨⟨⟨⟨h1,h2⟩,h3⟩,h4⟩,h5⟩,h6⟩,h7⟩
theorem vi (c:AB):T5 c=some (QM c):=by
 unfold T5 QM jn;rw [Uq];cases hs:oF c
 ·rfl
 ·have h:=kC hs;simp only [Option.bind_some,Bool.not_true,Bool.false_eq_true,if_false,Bool.true_eq_false,Abv h];have hg:=h.g;have fin:Ps c (oG c)=some (if c=zC' then gI else zk c):=by
   unfold Ps jn;rw [Abu h];simp only [Option.bind_some,Xi];by_cases hz:c=zC'
   ·rw [if_pos (beq_iff_eq.2 ((kF h).2 hz)),if_pos hz]
   ·rw [if_neg (fun q=>hz ((kF h).1 (beq_iff_eq.1 q))),if_neg hz]
  show Pt c (dl c.X 88)=_;simp only [Pt,jn];by_cases h0:0<c.Generic
  ·have e:oG c=dl c.X 88++Lib.itoa c.Generic:=by unfold oG gtx;rw [if_pos h0]
   rw [if_pos (by simp;omega),rl (by omega) (by omega)];simp only [Option.bind_some];rw [In (by rw [Jm];have:=SQ (n:=c.Generic) (by omega) (by omega);have:=h.x;simp [maxLen];omega), <-e];simp only [Option.bind_some,fin]
  ·have e:oG c=dl c.X 88:=by unfold oG gtx;rw [if_neg h0,List.append_nil]
   rw [if_neg (by simp;omega), <-e,fin]
theorem vj (c:AB):(QM c==[])= !oF c:=by
 unfold QM;cases h:oF c
 ·rfl
 ·rw [if_neg (by simp)];by_cases hz:c=zC'
  ·rw [if_pos hz];rfl
  ·rw [if_neg hz];have:=kF (kC h);rw [Bool.eq_false_iff.2 (fun q=>hz (this.1 (beq_iff_eq.1 q)))];rfl
theorem vk (c:AB):(QM c).length <=68:=by
 unfold QM;split
 ·simp
 ·split
  ·decide
  ·rename_i h _;exact(kD (kC (by simpa using h))).2.2.2.2.2
def hP (a:A6 Int):AB:=⟨a.x0,0,⟨a.x1,a.x2,a.x3,a.x4,a.x5⟩⟩
theorem AeT (a:A6 Int):Mm a=some (hP a):=rfl
theorem Abx (a:A6 Int):bN a=some (hP a):=by kernel_rfl
theorem AeU (a:A6 Int):Fv a=some (QM (hP a)):=by unfold Fv;rw [AeT];simp only [Option.bind_some,sY]
theorem Aby (a:A6 Int):GX a=some (QM (hP a)):=by unfold GX;rw [Abx];simp only [Option.bind_some,vi]
end Go.PL
