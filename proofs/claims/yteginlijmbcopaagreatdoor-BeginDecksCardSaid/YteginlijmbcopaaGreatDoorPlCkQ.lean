/- Plain laws of states: costs and pools. -/
import Derived.Test.YteginlijmbcopaaGreatDoorPlCkP
namespace Go.PL
open Go
set_option maxRecDepth 100000
set_option linter.all false
set_option maxHeartbeats 1000000
def KU:Nat:=9223372036854775800
theorem FU7:FU=KU+1+1+1+1+1+1+1:=rfl
def MH (m n:Int):Bool:=if decide (n<0) then true else decide (m<n)
theorem Ae7 {m n:Int}:MH m n=false↔0<=n/\n<=m:=by grind [MH]
def oR (c:AG):Bool:=MH 9 c.Color.x0||(MH 9 c.Color.x1||(MH 9 c.Color.x2||(MH 9 c.Color.x3||MH 9 c.Color.x4)))
def oS (c:AG):Bool:= !oR c&&(decide (0<=c.Generic)&&(decide (c.Generic<=99)&&(decide (0<=c.X)&&decide (c.X<=2))))
theorem wE (c:AG):EK c 0=(if MH 9 c.Color.x0=true then some (.inr (.inr false))else some (.inl 1)):=by kernel_rfl
theorem zY (c:AG):EK c 1=(if MH 9 c.Color.x1=true then some (.inr (.inr false))else some (.inl 2)):=by kernel_rfl
theorem Adu (c:AG):EK c 2=(if MH 9 c.Color.x2=true then some (.inr (.inr false))else some (.inl 3)):=by kernel_rfl
theorem Ae8 (c:AG):EK c 3=(if MH 9 c.Color.x3=true then some (.inr (.inr false))else some (.inl 4)):=by kernel_rfl
theorem Ag8 (c:AG):EK c 4=(if MH 9 c.Color.x4=true then some (.inr (.inr false))else some (.inl 5)):=by kernel_rfl
theorem Ag9 (c:AG):EK c 5=some (.inr (.inl ())):=by kernel_rfl
theorem zZ (c:AG):iter (fun(v:Int)=>EK c v) FU 0=some (if oR c=true then .inr false else .inl ()):=by
 rw [FU7];unfold oR;cases h0:MH 9 c.Color.x0
 ·cases h1:MH 9 c.Color.x1
  ·cases h2:MH 9 c.Color.x2
   ·cases h3:MH 9 c.Color.x3
    ·cases h4:MH 9 c.Color.x4
     all_goals simp_all [iter,wE,zY,Adu,Ae8,Ag8,Ag9]
    simp_all [iter,wE,zY,Adu,Ae8]
   simp_all [iter,wE,zY,Adu]
  grind [iter,wE,zY]
 ·simp [iter,wE,h0]
theorem ib (c:AG):Pr c=some (oS c):=by
 unfold Pr oS jn;rw [zZ];cases oR c
 ·simp only [YY,Option.bind_some,Sum.elim_inl,Bool.false_eq_true,if_false,Bool.not_false,Bool.true_and];grind
 ·rfl
theorem rb (m e:Int):(if decide (e<(0:Int)) then true else decide (m<e))=MH m e:=rfl
theorem rIs (c:AG) (k:Int) (e:Int) (hk:k<5) (h:idx c.Color.l k=some e):Ed c k=(if MH 9 e=true then some (.inr (.inr false))else some (.inl (Ac (k+1)))):=by unfold Ed MH;rw [if_pos (by simpa using hk)];grind [gd]
theorem wF (c:AG):Ed c 0=(if MH 9 c.Color.x0=true then some (.inr (.inr false))else some (.inl 1)):=rIs c 0 _ (by omega) (by kernel_rfl)
theorem z7 (c:AG):Ed c 1=(if MH 9 c.Color.x1=true then some (.inr (.inr false))else some (.inl 2)):=rIs c 1 _ (by omega) (by kernel_rfl)
theorem Adv (c:AG):Ed c 2=(if MH 9 c.Color.x2=true then some (.inr (.inr false))else some (.inl 3)):=rIs c 2 _ (by omega) (by kernel_rfl)
theorem Afa (c:AG):Ed c 3=(if MH 9 c.Color.x3=true then some (.inr (.inr false))else some (.inl 4)):=rIs c 3 _ (by omega) (by kernel_rfl)
theorem Aha (c:AG):Ed c 4=(if MH 9 c.Color.x4=true then some (.inr (.inr false))else some (.inl 5)):=rIs c 4 _ (by omega) (by kernel_rfl)
theorem Ahb (c:AG):Ed c 5=some (.inr (.inl ())):=by kernel_rfl
theorem wG (c:AG):iter (fun(v:Int)=>Ed c v) FU 0=some (if oR c=true then .inr false else .inl ()):=by
 rw [FU7];unfold oR;cases h0:MH 9 c.Color.x0
 ·cases h1:MH 9 c.Color.x1
  ·cases h2:MH 9 c.Color.x2
   ·cases h3:MH 9 c.Color.x3
    ·cases h4:MH 9 c.Color.x4
     all_goals simp_all [iter,wF,z7,Adv,Afa,Aha,Ahb]
    simp_all [iter,wF,z7,Adv,Afa]
   simp_all [iter,wF,z7,Adv]
  grind [iter,wF,z7]
 ·simp [iter,wF,h0]
theorem z8 (c:AG):oQ c=some (oS c):=by grind [oQ,oS,jn,wG,dU]
structure Ok (c:AG):Prop where
 c0:0<=c.Color.x0/\c.Color.x0<=9
 c1:0<=c.Color.x1/\c.Color.x1<=9
 c2:0<=c.Color.x2/\c.Color.x2<=9
 c3:0<=c.Color.x3/\c.Color.x3<=9
 c4:0<=c.Color.x4/\c.Color.x4<=9
 g:0<=c.Generic/\c.Generic<=99
 x:0<=c.X/\c.X<=2
theorem ic {c:AG} (h:oS c=true):Ok c:=by unfold oS at h;simp only [Bool.and_eq_true,Bool.not_eq_true',decide_eq_true_eq]at h;obtain⟨h1,h2,h3,h4,h5⟩:=h;unfold oR at h1;simp only [Bool.or_eq_false_iff,Ae7]at h1;obtain⟨a,b,c',d,e⟩:=h1;exact⟨a,b,c',d,e,⟨h2,h3⟩,⟨h4,h5⟩⟩
theorem wH (n:Int):Zw n=vV n:=by kernel_rfl
theorem oT {n:Int} (h0: -9223372036854775808<=n) (h1:n<=9223372036854775807):Zw n=some (Lib.itoa n):=by rw [wH,vW h0 h1]
theorem oU {n:Int} (h0: -9223372036854775808<=n) (h1:n<=9223372036854775807):Dg n=some (Lib.itoa n):=by simp_all [Dg,dC]
def Z4 (n:Int) (b:UInt8):List UInt8:=List.replicate n.toNat b
theorem SB (n:Int) (b:UInt8):(Z4 n b).length =n.toNat:=by simp [Z4]
theorem qx (b:UInt8): ∀ n,Lib.repeatL [b] n=List.replicate n b
 | 0=>rfl
 | n+1=>by show [b]++Lib.repeatL [b] n=_;rw [qx b n];rfl
theorem Afb {b:UInt8} {n:Int} (h:0<=n/\n<=1000):Le [b] n=some (Z4 n b):=by unfold Le;rw [if_pos ⟨h.1,by omega,by simp;omega⟩,qx];rfl
def gtx (g:Int):List UInt8:=if 0<g then Lib.itoa g else []
def mf (c:AG):List UInt8:=Z4 c.X 88++gtx c.Generic
def tx1 (c:AG):List UInt8:=mf c++Z4 c.Color.x0 65
def tx2 (c:AG):List UInt8:=tx1 c++Z4 c.Color.x1 67
def tx3 (c:AG):List UInt8:=tx2 c++Z4 c.Color.x2 74
def tx4 (c:AG):List UInt8:=tx3 c++Z4 c.Color.x3 82
def xu (c:AG):List UInt8:=tx4 c++Z4 c.Color.x4 69
theorem Aab {g:Int} (h:0<=g/\g<=99):(gtx g).length <=21:=by grind [gtx,WC]
theorem ig {c:AG} (h:Ok c):(mf c).length <=23/\(tx1 c).length <=32/\(tx2 c).length <=41/\(tx3 c).length <=50/\(tx4 c).length <=59/\(xu c).length <=68:=by
 have a:=h.c0;have b:=h.c1;have d:=h.c2;have e:=h.c3;have f:=h.c4;have g:=h.g;have x:=h.x;have hg:=Aab g;have h0:(mf c).length <=23:=by grind [mf,SB]
 grind [tx1,SB,tx2,tx3,tx4,xu]
theorem tB {c:AG} {s:List UInt8} {k e:Int} {b:UInt8} (hk:k<5) (h:idx c.Color.l k=some e) (h2:Xb Mo k (Ac (k+1))=some [b]) (he:0<=e/\e<=9) (hs:s.length<=1000):
 Ih c s k=some (.inl (s++Z4 e b,Ac (k+1))):=by
 unfold Ih;rw [if_pos (by simpa using hk),h,h2];grind [Afb,ID,SB,maxLen]
theorem wI {c:AG} (h:Ok c):iter (fun(v:(List UInt8)×Int)=>Ih c v.1 v.2) FU (mf c,0)=some (xu c):=by obtain⟨l0,l1,l2,l3,l4,l5⟩:=ig h;rw [FU7];rw [Cc (s':=(tx1 c,1)) (tB (by omega) (by kernel_rfl) (by kernel_rfl) h.c0 (by grind))];rw [Cc (s':=(tx2 c,2)) (tB (by omega) (by kernel_rfl) (by kernel_rfl) h.c1 (by grind))];rw [Cc (s':=(tx3 c,3)) (tB (by omega) (by kernel_rfl) (by kernel_rfl) h.c2 (by grind))];rw [Cc (s':=(tx4 c,4)) (tB (by omega) (by kernel_rfl) (by kernel_rfl) h.c3 (by grind))];rw [Cc (s':=(xu c,5)) (tB (by omega) (by kernel_rfl) (by kernel_rfl) h.c4 (by grind))];exact BD (by kernel_rfl)
def zC':AG:=⟨0,0,⟨0,0,0,0,0⟩⟩
def SC (c:AG):List UInt8:=if oS c=false then [] else if c=zC' then dP else xu c
theorem qy (c:AG):My c=some (SC c):=by
 unfold My SC jn;rw [ib];cases hs:oS c
 ·rfl
 ·have h:=ic hs;simp only [Option.bind_some,Bool.not_true,Bool.false_eq_true,if_false,Bool.true_eq_false];rw [show (⟨0,0,⟨0,0,0,0,0⟩⟩:AG)=zC' from rfl];by_cases hz:c=zC'
  ·grind
  ·rw [if_neg (fun q=>hz (beq_iff_eq.1 q)),if_neg hz];have hr:Le qu c.X=some (Z4 c.X 88):=Afb (b:=88) (by have:=h.x;omega);rw [hr];simp only [Option.bind_some];have hg:=h.g;by_cases h0:0<c.Generic
   ·have e:mf c=Z4 c.X 88++Lib.itoa c.Generic:=by unfold mf gtx;grind
    rw [if_pos (by simpa using h0),oU (by omega) (by omega)];simp only [Option.bind_some];rw [ID (by rw [SB];have:=WC (n:=c.Generic) (by omega) (by omega);have:=h.x;simp [maxLen];omega), <-e];grind [jn,Nj,wI,Ni]
   ·have e:mf c=Z4 c.X 88:=by simp_all [mf,gtx,if_neg]
    rw [if_neg (by simpa using h0), <-e];grind [jn,Nj,wI,Ni]
theorem lL {B:(List UInt8)×Int->Option (((List UInt8)×Int)⊕(List UInt8))} {s:List UInt8} {n:Int} {b:UInt8} (hn:0<=n/\n<=1000)
 (hgo: ∀ (t:List UInt8) (k:Int),t.length<=s.length+1000->0<=k->k<n->B (t,k)=some (.inl (t++[b],k+1))) (axZ: ∀ t,B (t,n)=some (.inr t)):
 iter B FU (s,0)=some (s++Z4 n b):=by
 refine FS (fun i=>(s++List.replicate i b,(i:Int))) n.toNat (by omega) (fun i hi=>?_) ?_ (by simp)
 ·rw [hgo _ _ (by simp;omega) (by omega) (by omega),List.append_assoc, <-List.replicate_succ'];rfl
 ·rw [show ((n.toNat:Nat):Int)=n by omega];exact axZ _
theorem wJ {c:AG} {s:List UInt8} {k e:Int} {b:UInt8} (h:idx c.Color.l k=some e) (h2:Xb Mo k (Ac (k+1))=some [b]) (he:0<=e/\e<=9) (hs:s.length<=1000):
 iter (fun(v:(List UInt8)×Int)=>Hg c k v.1 v.2) FU (s,0)=some (s++Z4 e b):=by
 refine lL (by omega) (fun t j ht h0 h1=>?_) (fun t=>?_)
 ·show Hg c k t j=_;unfold Hg;rw [h];simp only [Option.bind_some];rw [if_pos (by simpa using h1),h2];grind [ID,maxLen,Ao]
 simp_all [Hg]
theorem rtB {c:AG} {s:List UInt8} {k e:Int} {b:UInt8} (hk:k<5) (h:idx c.Color.l k=some e) (h2:Xb Mo k (Ac (k+1))=some [b]) (he:0<=e/\e<=9) (hs:s.length<=1000):
 Jy c s k=some (.inl (s++Z4 e b,Ac (k+1))):=by
 unfold Jy jn;rw [if_pos (by simpa using hk),wJ h h2 he hs];rfl
theorem Aac {c:AG} (h:Ok c):iter (fun(v:(List UInt8)×Int)=>Jy c v.1 v.2) FU (mf c,0)=some (xu c):=by obtain⟨l0,l1,l2,l3,l4,l5⟩:=ig h;rw [FU7];rw [Cc (s':=(tx1 c,1)) (rtB (by omega) (by kernel_rfl) (by kernel_rfl) h.c0 (by grind))];rw [Cc (s':=(tx2 c,2)) (rtB (by omega) (by kernel_rfl) (by kernel_rfl) h.c1 (by grind))];rw [Cc (s':=(tx3 c,3)) (rtB (by omega) (by kernel_rfl) (by kernel_rfl) h.c2 (by grind))];rw [Cc (s':=(tx4 c,4)) (rtB (by omega) (by kernel_rfl) (by kernel_rfl) h.c3 (by grind))];rw [Cc (s':=(xu c,5)) (rtB (by omega) (by kernel_rfl) (by kernel_rfl) h.c4 (by grind))];exact BD (by kernel_rfl)
theorem Aad {c:AG} (h:Ok c):iter (fun(v:(List UInt8)×Int)=>Hh c v.1 v.2) FU ([],0)=some (Z4 c.X 88):=by
 have hx:=h.x;refine(lL (s:=[]) (n:=c.X) (b:=88) (by omega) (fun t j ht h0 h1=>?_) (fun t=>?_)).trans (by simp)
 ·show Hh c t j=_;unfold Hh;rw [if_pos (by simpa using h1),ID (by simp at ht;simp [maxLen,qu];omega),Ao (by omega) (by omega)];rfl
 simp_all [Hh]
theorem ii (n:Nat):Lib.decDigits n ≠ []:=by rw [Lib.decDigits];split<;>simp
theorem Aae (n:Int):Lib.itoa n ≠ []:=by grind [Lib.itoa,ii]
theorem Uw {n:Int} {b:UInt8} (h0:0<=n):Z4 n b=[]↔n=0:=by grind [Z4,List.replicate_eq_nil_iff]
theorem qz {c:AG} (h:Ok c):xu c=[]↔c=zC':=by
 have hg:gtx c.Generic=[]↔c.Generic=0:=by
  have:=h.g;unfold gtx;by_cases h0:0<c.Generic
  ·rw [if_pos h0];grind [Aae]
  grind
 unfold xu tx4 tx3 tx2 tx1 mf;simp only [List.append_eq_nil_iff,Uw h.x.1,Uw h.c0.1,Uw h.c1.1,Uw h.c2.1,Uw h.c3.1,Uw h.c4.1,hg];obtain⟨g,x,⟨a,b,d,e,f⟩⟩:=c;grind [zC']
theorem Aee (c:AG):lC c=some (SC c):=by
 unfold lC SC jn;rw [z8];cases hs:oS c
 ·rfl
 ·have h:=ic hs;simp only [Option.bind_some,Bool.not_true,Bool.false_eq_true,if_false,Bool.true_eq_false,Aad h];have hg:=h.g;have fin:OX c (mf c)=some (if c=zC' then dP else xu c):=by
   unfold OX jn;rw [Aac h];simp only [Option.bind_some,VF];by_cases hz:c=zC'
   all_goals simp_all [qz]
  show OY c (Z4 c.X 88)=_;simp only [OY,jn];by_cases h0:0<c.Generic
  ·have e:mf c=Z4 c.X 88++Lib.itoa c.Generic:=by unfold mf gtx;grind
   rw [if_pos (by simp;omega),oT (by omega) (by omega)];simp only [Option.bind_some];rw [ID (by rw [SB];have:=WC (n:=c.Generic) (by omega) (by omega);have:=h.x;simp [maxLen];omega), <-e];grind
  ·have e:mf c=Z4 c.X 88:=by simp_all [mf,gtx,if_neg]
   grind
theorem tb (c:AG):(SC c==[])= !oS c:=by
 unfold SC;cases h:oS c
 ·rfl
 ·rw [if_neg (by simp)];by_cases hz:c=zC'
  ·rw [if_pos hz];rfl
  simp_all [qz,ic]
theorem td (c:AG):(SC c).length <=68:=by
 unfold SC;split
 ·simp
 ·split
  ·decide
  simp_all [ig,ic]
def qA (a:A6 Int):AG:=⟨a.x0,0,⟨a.x1,a.x2,a.x3,a.x4,a.x5⟩⟩
theorem Adw (a:A6 Int):Ms a=some (qA a):=rfl
theorem Adx (a:A6 Int):FM a=some (SC (qA a)):=by grind [FM,Adw,qy]
end Go.PL
