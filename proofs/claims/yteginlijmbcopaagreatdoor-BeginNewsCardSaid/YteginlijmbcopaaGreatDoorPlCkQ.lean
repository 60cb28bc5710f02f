/- Plain laws of states: costs and pools. -/
import Derived.Test.YteginlijmbcopaaGreatDoorPlCkP
namespace Go.PL
open Go
set_option maxRecDepth 100000
set_option linter.all false
set_option maxHeartbeats 1000000
def KU:Nat:=9223372036854775800
theorem FU7:FU=KU+1+1+1+1+1+1+1:=rfl
def Sm (m n:Int):Bool:=if decide (n<0) then true else decide (m<n)
theorem Ah3 {m n:Int}:Sm m n=false↔0<=n/\n<=m:=by grind [Sm]
def sX (c:Az):Bool:=Sm 9 c.Color.x0||(Sm 9 c.Color.x1||(Sm 9 c.Color.x2||(Sm 9 c.Color.x3||Sm 9 c.Color.x4)))
def sY (c:Az):Bool:= !sX c&&(decide (0<=c.Generic)&&(decide (c.Generic<=99)&&(decide (0<=c.X)&&decide (c.X<=2))))
theorem Aaq (c:Az):EB c 0=(if Sm 9 c.Color.x0=true then some (.inr (.inr false))else some (.inl 1)):=by kernel_rfl
theorem Ac8 (c:Az):EB c 1=(if Sm 9 c.Color.x1=true then some (.inr (.inr false))else some (.inl 2)):=by kernel_rfl
theorem AgA (c:Az):EB c 2=(if Sm 9 c.Color.x2=true then some (.inr (.inr false))else some (.inl 3)):=by kernel_rfl
theorem Ah4 (c:Az):EB c 3=(if Sm 9 c.Color.x3=true then some (.inr (.inr false))else some (.inl 4)):=by kernel_rfl
theorem AjP (c:Az):EB c 4=(if Sm 9 c.Color.x4=true then some (.inr (.inr false))else some (.inl 5)):=by kernel_rfl
theorem AjQ (c:Az):EB c 5=some (.inr (.inl ())):=by kernel_rfl
theorem Ac9 (c:Az):iter (fun(v:Int)=>EB c v) FU 0=some (if sX c=true then .inr false else .inl ()):=by
 rw [FU7];unfold sX;cases h0:Sm 9 c.Color.x0
 ·cases h1:Sm 9 c.Color.x1
  ·cases h2:Sm 9 c.Color.x2
   ·cases h3:Sm 9 c.Color.x3
    ·cases h4:Sm 9 c.Color.x4
     all_goals simp_all [iter,Aaq,Ac8,AgA,Ah4,AjP,AjQ]
    simp_all [iter,Aaq,Ac8,AgA,Ah4]
   simp_all [iter,Aaq,Ac8,AgA]
  grind [iter,Aaq,Ac8]
 ·simp [iter,Aaq,h0]
theorem lA (c:Az):Qp c=some (sY c):=by
 unfold Qp sY jn;rw [Ac9];cases sX c
 ·simp only [bt,Option.bind_some,Sum.elim_inl,Bool.false_eq_true,if_false,Bool.not_false,Bool.true_and];grind
 ·rfl
theorem rb (m e:Int):(if decide (e<(0:Int)) then true else decide (m<e))=Sm m e:=rfl
theorem rIs (c:Az) (k:Int) (e:Int) (hk:k<5) (h:idx c.Color.l k=some e):D1 c k=(if Sm 9 e=true then some (.inr (.inr false))else some (.inl (Aa (k+1)))):=by unfold D1 Sm;rw [if_pos (by simpa using hk)];grind [gd]
theorem Aar (c:Az):D1 c 0=(if Sm 9 c.Color.x0=true then some (.inr (.inr false))else some (.inl 1)):=rIs c 0 _ (by omega) (by kernel_rfl)
theorem Ada (c:Az):D1 c 1=(if Sm 9 c.Color.x1=true then some (.inr (.inr false))else some (.inl 2)):=rIs c 1 _ (by omega) (by kernel_rfl)
theorem AgB (c:Az):D1 c 2=(if Sm 9 c.Color.x2=true then some (.inr (.inr false))else some (.inl 3)):=rIs c 2 _ (by omega) (by kernel_rfl)
theorem Ah6 (c:Az):D1 c 3=(if Sm 9 c.Color.x3=true then some (.inr (.inr false))else some (.inl 4)):=rIs c 3 _ (by omega) (by kernel_rfl)
theorem AjR (c:Az):D1 c 4=(if Sm 9 c.Color.x4=true then some (.inr (.inr false))else some (.inl 5)):=rIs c 4 _ (by omega) (by kernel_rfl)
theorem AjS (c:Az):D1 c 5=some (.inr (.inl ())):=by kernel_rfl
theorem Aas (c:Az):iter (fun(v:Int)=>D1 c v) FU 0=some (if sX c=true then .inr false else .inl ()):=by
 rw [FU7];unfold sX;cases h0:Sm 9 c.Color.x0
 ·cases h1:Sm 9 c.Color.x1
  ·cases h2:Sm 9 c.Color.x2
   ·cases h3:Sm 9 c.Color.x3
    ·cases h4:Sm 9 c.Color.x4
     all_goals simp_all [iter,Aar,Ada,AgB,Ah6,AjR,AjS]
    simp_all [iter,Aar,Ada,AgB,Ah6]
   simp_all [iter,Aar,Ada,AgB]
  grind [iter,Aar,Ada]
 ·simp [iter,Aar,h0]
theorem UH (c:Az):VW c=some (sY c):=by grind [VW,sY,jn,Aas,iz]
structure Ok (c:Az):Prop where
 c0:0<=c.Color.x0/\c.Color.x0<=9
 c1:0<=c.Color.x1/\c.Color.x1<=9
 c2:0<=c.Color.x2/\c.Color.x2<=9
 c3:0<=c.Color.x3/\c.Color.x3<=9
 c4:0<=c.Color.x4/\c.Color.x4<=9
 g:0<=c.Generic/\c.Generic<=99
 x:0<=c.X/\c.X<=2
theorem lB {c:Az} (h:sY c=true):Ok c:=by unfold sY at h;simp only [Bool.and_eq_true,Bool.not_eq_true',decide_eq_true_eq]at h;obtain⟨h1,h2,h3,h4,h5⟩:=h;unfold sX at h1;simp only [Bool.or_eq_false_iff,Ah3]at h1;obtain⟨a,b,c',d,e⟩:=h1;exact⟨a,b,c',d,e,⟨h2,h3⟩,⟨h4,h5⟩⟩
theorem Aat (n:Int):Dw n=uu n:=by kernel_rfl
theorem sZ {n:Int} (h0: -9223372036854775808<=n) (h1:n<=9223372036854775807):Dw n=some (Lib.itoa n):=by rw [Aat,om h0 h1]
theorem ta {n:Int} (h0: -9223372036854775808<=n) (h1:n<=9223372036854775807):Db n=some (Lib.itoa n):=by simp_all [Db,hT]
def de (n:Int) (b:UInt8):List UInt8:=List.replicate n.toNat b
theorem UI (n:Int) (b:UInt8):(de n b).length =n.toNat:=by simp [de]
theorem uM (b:UInt8): ∀ n,Lib.repeatL [b] n=List.replicate n b
 | 0=>rfl
 | n+1=>by show [b]++Lib.repeatL [b] n=_;rw [uM b n];rfl
theorem Ah7 {b:UInt8} {n:Int} (h:0<=n/\n<=1000):Lm [b] n=some (de n b):=by unfold Lm;rw [if_pos ⟨h.1,by omega,by simp;omega⟩,uM];rfl
def gtx (g:Int):List UInt8:=if 0<g then Lib.itoa g else []
def qh (c:Az):List UInt8:=de c.X 88++gtx c.Generic
def tx1 (c:Az):List UInt8:=qh c++de c.Color.x0 65
def tx2 (c:Az):List UInt8:=tx1 c++de c.Color.x1 67
def tx3 (c:Az):List UInt8:=tx2 c++de c.Color.x2 74
def tx4 (c:Az):List UInt8:=tx3 c++de c.Color.x3 82
def tx5 (c:Az):List UInt8:=tx4 c++de c.Color.x4 69
theorem Adc {g:Int} (h:0<=g/\g<=99):(gtx g).length <=21:=by grind [gtx,S7]
theorem lC {c:Az} (h:Ok c):(qh c).length <=23/\(tx1 c).length <=32/\(tx2 c).length <=41/\(tx3 c).length <=50/\(tx4 c).length <=59/\(tx5 c).length <=68:=by
 have a:=h.c0;have b:=h.c1;have d:=h.c2;have e:=h.c3;have f:=h.c4;have g:=h.g;have x:=h.x;have hg:=Adc g;have h0:(qh c).length <=23:=by grind [qh,UI]
 grind [tx1,UI,tx2,tx3,tx4,tx5]
theorem tB {c:Az} {s:List UInt8} {k e:Int} {b:UInt8} (hk:k<5) (h:idx c.Color.l k=some e) (h2:Zn Mx k (Aa (k+1))=some [b]) (he:0<=e/\e<=9) (hs:s.length<=1000):
 Ia c s k=some (.inl (s++de e b,Aa (k+1))):=by
 unfold Ia;rw [if_pos (by simpa using hk),h,h2];grind [Ah7,Iv,UI,maxLen]
theorem Aau {c:Az} (h:Ok c):iter (fun(v:(List UInt8)×Int)=>Ia c v.1 v.2) FU (qh c,0)=some (tx5 c):=by obtain⟨l0,l1,l2,l3,l4,l5⟩:=lC h;rw [FU7];rw [CM (s':=(tx1 c,1)) (tB (by omega) (by kernel_rfl) (by kernel_rfl) h.c0 (by grind))];rw [CM (s':=(tx2 c,2)) (tB (by omega) (by kernel_rfl) (by kernel_rfl) h.c1 (by grind))];rw [CM (s':=(tx3 c,3)) (tB (by omega) (by kernel_rfl) (by kernel_rfl) h.c2 (by grind))];rw [CM (s':=(tx4 c,4)) (tB (by omega) (by kernel_rfl) (by kernel_rfl) h.c3 (by grind))];rw [CM (s':=(tx5 c,5)) (tB (by omega) (by kernel_rfl) (by kernel_rfl) h.c4 (by grind))];exact Cu (by kernel_rfl)
def zC':Az:=⟨0,0,⟨0,0,0,0,0⟩⟩
def Q6 (c:Az):List UInt8:=if sY c=false then [] else if c=zC' then ik else tx5 c
theorem uN (c:Az):MI c=some (Q6 c):=by
 unfold MI Q6 jn;rw [lA];cases hs:sY c
 ·rfl
 ·have h:=lB hs;simp only [Option.bind_some,Bool.not_true,Bool.false_eq_true,if_false,Bool.true_eq_false];rw [show (⟨0,0,⟨0,0,0,0,0⟩⟩:Az)=zC' from rfl];by_cases hz:c=zC'
  ·grind
  ·rw [if_neg (fun q=>hz (beq_iff_eq.1 q)),if_neg hz];have hr:Lm uB c.X=some (de c.X 88):=Ah7 (b:=88) (by have:=h.x;omega);rw [hr];simp only [Option.bind_some];have hg:=h.g;by_cases h0:0<c.Generic
   ·have e:qh c=de c.X 88++Lib.itoa c.Generic:=by unfold qh gtx;grind
    rw [if_pos (by simpa using h0),ta (by omega) (by omega)];simp only [Option.bind_some];rw [Iv (by rw [UI];have:=S7 (n:=c.Generic) (by omega) (by omega);have:=h.x;simp [maxLen];omega), <-e];grind [jn,NM,Aau,NL]
   ·have e:qh c=de c.X 88:=by simp_all [qh,gtx,if_neg]
    rw [if_neg (by simpa using h0), <-e];grind [jn,NM,Aau,NL]
theorem pL {B:(List UInt8)×Int->Option (((List UInt8)×Int)⊕(List UInt8))} {s:List UInt8} {n:Int} {b:UInt8} (hn:0<=n/\n<=1000)
 (hgo: ∀ (t:List UInt8) (k:Int),t.length<=s.length+1000->0<=k->k<n->B (t,k)=some (.inl (t++[b],k+1))) (azy: ∀ t,B (t,n)=some (.inr t)):
 iter B FU (s,0)=some (s++de n b):=by
 refine YI (fun i=>(s++List.replicate i b,(i:Int))) n.toNat (by omega) (fun i hi=>?_) ?_ (by simp)
 ·rw [hgo _ _ (by simp;omega) (by omega) (by omega),List.append_assoc, <-List.replicate_succ'];rfl
 ·rw [show ((n.toNat:Nat):Int)=n by omega];exact azy _
theorem Aav {c:Az} {s:List UInt8} {k e:Int} {b:UInt8} (h:idx c.Color.l k=some e) (h2:Zn Mx k (Aa (k+1))=some [b]) (he:0<=e/\e<=9) (hs:s.length<=1000):
 iter (fun(v:(List UInt8)×Int)=>G5 c k v.1 v.2) FU (s,0)=some (s++de e b):=by
 refine pL (by omega) (fun t j ht h0 h1=>?_) (fun t=>?_)
 ·show G5 c k t j=_;unfold G5;rw [h];simp only [Option.bind_some];rw [if_pos (by simpa using h1),h2];grind [Iv,maxLen,A7]
 simp_all [G5]
theorem rtB {c:Az} {s:List UInt8} {k e:Int} {b:UInt8} (hk:k<5) (h:idx c.Color.l k=some e) (h2:Zn Mx k (Aa (k+1))=some [b]) (he:0<=e/\e<=9) (hs:s.length<=1000):
 Js c s k=some (.inl (s++de e b,Aa (k+1))):=by
 unfold Js jn;rw [if_pos (by simpa using hk),Aav h h2 he hs];rfl
theorem Add {c:Az} (h:Ok c):iter (fun(v:(List UInt8)×Int)=>Js c v.1 v.2) FU (qh c,0)=some (tx5 c):=by obtain⟨l0,l1,l2,l3,l4,l5⟩:=lC h;rw [FU7];rw [CM (s':=(tx1 c,1)) (rtB (by omega) (by kernel_rfl) (by kernel_rfl) h.c0 (by grind))];rw [CM (s':=(tx2 c,2)) (rtB (by omega) (by kernel_rfl) (by kernel_rfl) h.c1 (by grind))];rw [CM (s':=(tx3 c,3)) (rtB (by omega) (by kernel_rfl) (by kernel_rfl) h.c2 (by grind))];rw [CM (s':=(tx4 c,4)) (rtB (by omega) (by kernel_rfl) (by kernel_rfl) h.c3 (by grind))];rw [CM (s':=(tx5 c,5)) (rtB (by omega) (by kernel_rfl) (by kernel_rfl) h.c4 (by grind))];exact Cu (by kernel_rfl)
theorem Ade {c:Az} (h:Ok c):iter (fun(v:(List UInt8)×Int)=>G6 c v.1 v.2) FU ([],0)=some (de c.X 88):=by
 have hx:=h.x;refine(pL (s:=[]) (n:=c.X) (b:=88) (by omega) (fun t j ht h0 h1=>?_) (fun t=>?_)).trans (by simp)
 ·show G6 c t j=_;unfold G6;rw [if_pos (by simpa using h1),Iv (by simp at ht;simp [maxLen,uB];omega),A7 (by omega) (by omega)];rfl
 simp_all [G6]
theorem lD (n:Nat):Lib.decDigits n ≠ []:=by rw [Lib.decDigits];split<;>simp
theorem Adf (n:Int):Lib.itoa n ≠ []:=by grind [Lib.itoa,lD]
theorem Wr {n:Int} {b:UInt8} (h0:0<=n):de n b=[]↔n=0:=by grind [de,List.replicate_eq_nil_iff]
theorem uO {c:Az} (h:Ok c):tx5 c=[]↔c=zC':=by
 have hg:gtx c.Generic=[]↔c.Generic=0:=by
  have:=h.g;unfold gtx;by_cases h0:0<c.Generic
  ·rw [if_pos h0];grind [Adf]
  grind
 unfold tx5 tx4 tx3 tx2 tx1 qh;simp only [List.append_eq_nil_iff,Wr h.x.1,Wr h.c0.1,Wr h.c1.1,Wr h.c2.1,Wr h.c3.1,Wr h.c4.1,hg];obtain⟨g,x,⟨a,b,d,e,f⟩⟩:=c;grind [zC']
theorem xg (c:Az):Uk c=some (Q6 c):=by
 unfold Uk Q6 jn;rw [UH];cases hs:sY c
 ·rfl
 ·have h:=lB hs;simp only [Option.bind_some,Bool.not_true,Bool.false_eq_true,if_false,Bool.true_eq_false,Ade h];have hg:=h.g;have fin:PG c (qh c)=some (if c=zC' then ik else tx5 c):=by
   unfold PG jn;rw [Add h];simp only [Option.bind_some,XB];by_cases hz:c=zC'
   all_goals simp_all [uO]
  show PH c (de c.X 88)=_;simp only [PH,jn];by_cases h0:0<c.Generic
  ·have e:qh c=de c.X 88++Lib.itoa c.Generic:=by unfold qh gtx;grind
   rw [if_pos (by simp;omega),sZ (by omega) (by omega)];simp only [Option.bind_some];rw [Iv (by rw [UI];have:=S7 (n:=c.Generic) (by omega) (by omega);have:=h.x;simp [maxLen];omega), <-e];grind
  ·have e:qh c=de c.X 88:=by simp_all [qh,gtx,if_neg]
   grind
theorem xh (c:Az):(Q6 c==[])= !sY c:=by
 unfold Q6;cases h:sY c
 ·rfl
 ·rw [if_neg (by simp)];by_cases hz:c=zC'
  ·rw [if_pos hz];rfl
  simp_all [uO,lB]
theorem xi (c:Az):(Q6 c).length <=68:=by
 unfold Q6;split
 ·simp
 ·split
  ·decide
  simp_all [lC,lB]
def iM (a:A6 Int):Az:=⟨a.x0,0,⟨a.x1,a.x2,a.x3,a.x4,a.x5⟩⟩
theorem AgC (a:A6 Int):MB a=some (iM a):=rfl
theorem Adg (a:A6 Int):bV a=some (iM a):=by kernel_rfl
theorem AgD (a:A6 Int):FD a=some (Q6 (iM a)):=by grind [FD,AgC,uN]
theorem Adh (a:A6 Int):G9 a=some (Q6 (iM a)):=by grind [G9,Adg,xg]
end Go.PL
