/- Plain laws of states: costs and pools. -/
import Derived.Test.YtelbpfkjhndccaaGreatDoorPlSbP
namespace Go.PL
open Go
set_option maxRecDepth 100000
set_option linter.all false
set_option maxHeartbeats 1000000
def KU:Nat:=9223372036854775800
theorem ot:FU=KU+1+1+1+1+1+1+1:=rfl
def MY (m n:Int):Bool:=if decide (n<0)=true then true else decide (m<n)
theorem nh {m n:Int}:MY m n=false↔0≤n∧n≤m:=by
 unfold MY
 by_cases h:n<0<;>simp [h]<;>omega
def Zq (c:A1):Bool:=MY 9 c.Color.x0||(MY 9 c.Color.x1||(MY 9 c.Color.x2||(MY 9 c.Color.x3||MY 9 c.Color.x4)))
def cj (c:A1):Bool:= !Zq c&&(decide (0≤c.Generic)&&(decide (c.Generic≤99)&&(decide (0≤c.X)&&decide (c.X≤2))))
theorem dC (c:A1):Fc c 0=(if MY 9 c.Color.x0=true then some (.inr (.inr ()))else some (.inl 1)):=by kernel_rfl
theorem fC (c:A1):Fc c 1=(if MY 9 c.Color.x1=true then some (.inr (.inr ()))else some (.inl 2)):=by kernel_rfl
theorem ij (c:A1):Fc c 2=(if MY 9 c.Color.x2=true then some (.inr (.inr ()))else some (.inl 3)):=by kernel_rfl
theorem lb (c:A1):Fc c 3=(if MY 9 c.Color.x3=true then some (.inr (.inr ()))else some (.inl 4)):=by kernel_rfl
theorem ni (c:A1):Fc c 4=(if MY 9 c.Color.x4=true then some (.inr (.inr ()))else some (.inl 5)):=by kernel_rfl
theorem oU (c:A1):Fc c 5=some (.inr (.inl ())):=by kernel_rfl
theorem ik (c:A1):iter (fun(v:Int)=>Fc c v) FU 0=some (if Zq c=true then .inr ()else .inl ()):=by
 rw [ot]
 unfold Zq
 cases h0:MY 9 c.Color.x0
 ·cases h1:MY 9 c.Color.x1
  ·cases h2:MY 9 c.Color.x2
   ·cases h3:MY 9 c.Color.x3
    ·cases h4:MY 9 c.Color.x4
     ·simp [iter,dC,fC,ij,lb,ni,oU,h0,h1,h2,h3,h4]
     ·simp [iter,dC,fC,ij,lb,ni,h0,h1,h2,h3,h4]
    ·simp [iter,dC,fC,ij,lb,h0,h1,h2,h3]
   ·simp [iter,dC,fC,ij,h0,h1,h2]
  ·simp [iter,dC,fC,h0,h1]
 ·simp [iter,dC,h0]
theorem fD (c:A1):Oe c=some (cj c):=by
 unfold Oe cj
 rw [ik]
 cases Zq c
 ·simp only [KY,Option.bind_some,Sum.elim_inl,Bool.false_eq_true,if_false,Bool.not_false,Bool.true_and]
  by_cases h1:0≤c.Generic<;>by_cases h2:c.Generic≤99<;>by_cases h3:0≤c.X<;>simp [h1,h2,h3]
 ·rfl
theorem rb (m e:Int):(if decide (e<(0:Int))=true then true else decide (m<e))=MY m e:=rfl
theorem pE {β:Type} (m e:Int) (o:Option Int) (f:Bool→Option β) (ho:o=some e):((gd ((decide (e<(0:Int)))==false) o).bind fun e11=>(some (if(decide (e<(0:Int)))=true then true else decide (m<e11))).bind f)=f (MY m e):=by
 subst ho
 by_cases h:e<0
 ·simp [gd,h,MY]
 ·simp [gd,h,MY]
theorem nj (c:A1) (k:Int) (e:Int) (hk:k<5) (h:idx c.Color.l k=some e):Gy c k=(if MY 9 e=true then some (.inr (.inr ()))else some (.inl (Ab (k+1)))):=by
 unfold Gy
 rw [if_pos (by simpa using hk),h,Option.bind_some]
 exact pE 9 e _ _ rfl
theorem dD (c:A1):Gy c 0=(if MY 9 c.Color.x0=true then some (.inr (.inr ()))else some (.inl 1)):=nj c 0 _ (by omega) (by kernel_rfl)
theorem fE (c:A1):Gy c 1=(if MY 9 c.Color.x1=true then some (.inr (.inr ()))else some (.inl 2)):=nj c 1 _ (by omega) (by kernel_rfl)
theorem il (c:A1):Gy c 2=(if MY 9 c.Color.x2=true then some (.inr (.inr ()))else some (.inl 3)):=nj c 2 _ (by omega) (by kernel_rfl)
theorem lc (c:A1):Gy c 3=(if MY 9 c.Color.x3=true then some (.inr (.inr ()))else some (.inl 4)):=nj c 3 _ (by omega) (by kernel_rfl)
theorem nk (c:A1):Gy c 4=(if MY 9 c.Color.x4=true then some (.inr (.inr ()))else some (.inl 5)):=nj c 4 _ (by omega) (by kernel_rfl)
theorem oV (c:A1):Gy c 5=some (.inr (.inl ())):=by kernel_rfl
theorem fF (c:A1):iter (fun(v:Int)=>Gy c v) FU 0=some (if Zq c=true then .inr ()else .inl ()):=by
 rw [ot]
 unfold Zq
 cases h0:MY 9 c.Color.x0
 ·cases h1:MY 9 c.Color.x1
  ·cases h2:MY 9 c.Color.x2
   ·cases h3:MY 9 c.Color.x3
    ·cases h4:MY 9 c.Color.x4
     ·simp [iter,dD,fE,il,lc,nk,oV,h0,h1,h2,h3,h4]
     ·simp [iter,dD,fE,il,lc,nk,h0,h1,h2,h3,h4]
    ·simp [iter,dD,fE,il,lc,h0,h1,h2,h3]
   ·simp [iter,dD,fE,il,h0,h1,h2]
  ·simp [iter,dD,fE,h0,h1]
 ·simp [iter,dD,h0]
theorem ck (c:A1):Xy c=some (cj c):=by
 unfold Xy cj
 rw [fF]
 by_cases h1:c.Generic<0<;>by_cases h2:99<c.Generic<;>by_cases h3:c.X<0<;>by_cases h4:2<c.X<;>
  simp [h1,h2,h3,h4,show (0≤c.Generic)= ¬(c.Generic<0)from by simp,show (c.Generic≤99)= ¬(99<c.Generic)from by simp,show (0≤c.X)= ¬(c.X<0)from by simp,show (c.X≤2)= ¬(2<c.X)from by simp,Wz]<;>cases Zq c<;>rfl
structure Ok (c:A1):Prop where
 c0:0≤c.Color.x0∧c.Color.x0≤9
 c1:0≤c.Color.x1∧c.Color.x1≤9
 c2:0≤c.Color.x2∧c.Color.x2≤9
 c3:0≤c.Color.x3∧c.Color.x3≤9
 c4:0≤c.Color.x4∧c.Color.x4≤9
 g:0≤c.Generic∧c.Generic≤99
 x:0≤c.X∧c.X≤2
theorem XO {c:A1} (h:cj c=true):Ok c:=by
 unfold cj at h
 simp only [Bool.and_eq_true,Bool.not_eq_true',decide_eq_true_eq]at h
 obtain⟨h1,h2,h3,h4,h5⟩:=h
 unfold Zq at h1
 simp only [Bool.or_eq_false_iff,nh]at h1
 obtain⟨a,b,c',d,e⟩:=h1
 exact⟨a,b,c',d,e,⟨h2,h3⟩,⟨h4,h5⟩⟩
theorem fG (n:Int):F9 n=bI n:=by kernel_rfl
theorem aS {n:Int} (h0: -9223372036854775808≤n) (h1:n≤9223372036854775807):F9 n=some (Lib.itoa n):=by rw [fG,YG h0 h1]
theorem aU {n:Int} (h0: -9223372036854775808≤n) (h1:n≤9223372036854775807):EE n=some (Lib.itoa n):=by
 unfold EE YN;rw [if_pos ⟨h0,h1⟩];rfl
def VJ (n:Int) (b:UInt8):List UInt8:=List.replicate n.toNat b
theorem Kp (n:Int) (b:UInt8):(VJ n b).length =n.toNat:=by simp [VJ]
theorem cm (b:UInt8): ∀ n,Lib.repeatL [b] n=List.replicate n b
 | 0=>rfl
 | n+1=>by show [b]++Lib.repeatL [b] n=_;rw [cm b n];rfl
theorem nl {b:UInt8} {n:Int} (h:0≤n∧n≤1000):Mn [b] n=some (VJ n b):=by
 unfold Mn
 rw [if_pos ⟨h.1,by omega,by simp;omega⟩,cm];rfl
def io (g:Int):List UInt8:=if 0<g then Lib.itoa g else []
def ZK (c:A1):List UInt8:=VJ c.X 88++io c.Generic
def ld (c:A1):List UInt8:=ZK c++VJ c.Color.x0 65
def lf (c:A1):List UInt8:=ld c++VJ c.Color.x1 67
def lg (c:A1):List UInt8:=lf c++VJ c.Color.x2 74
def lh (c:A1):List UInt8:=lg c++VJ c.Color.x3 82
def gy (c:A1):List UInt8:=lh c++VJ c.Color.x4 69
theorem ip {g:Int} (h:0≤g∧g≤99):(io g).length ≤21:=by
 unfold io
 split
 ·exact PF (by omega) (by omega)
 ·simp
theorem XP {c:A1} (h:Ok c):(ZK c).length ≤23∧(ld c).length ≤32∧(lf c).length ≤41∧(lg c).length ≤50∧(lh c).length ≤59∧(gy c).length ≤68:=by
 have a:=h.c0;have b:=h.c1;have d:=h.c2;have e:=h.c3;have f:=h.c4;have g:=h.g;have x:=h.x
 have hg:=ip g
 have h0:(ZK c).length ≤23:=by unfold ZK;rw [List.length_append,Kp];omega
 have h1:(ld c).length ≤32:=by unfold ld;rw [List.length_append,Kp];omega
 have h2:(lf c).length ≤41:=by unfold lf;rw [List.length_append,Kp];omega
 have h3:(lg c).length ≤50:=by unfold lg;rw [List.length_append,Kp];omega
 have h4:(lh c).length ≤59:=by unfold lh;rw [List.length_append,Kp];omega
 exact⟨h0,h1,h2,h3,h4,by unfold gy;rw [List.length_append,Kp];omega⟩
theorem tB {c:A1} {s:List UInt8} {k e:Int} {b:UInt8} (hk:k<5) (h:idx c.Color.l k=some e) (h2:ssub L0 k (Ab (k+1))=some [b]) (he:0≤e∧e≤9) (hs:s.length≤1000):
 Gz c s k=some (.inl (s++VJ e b,Ab (k+1))):=by
 unfold Gz
 rw [if_pos (by simpa using hk),h,h2]
 simp only [Option.bind_some]
 rw [nl (by omega)]
 simp only [Option.bind_some]
 rw [JC (by rw [Kp];simp [maxLen];omega)];rfl
theorem fH {c:A1} (h:Ok c):iter (fun(v:(List UInt8)×Int)=>Gz c v.1 v.2) FU (ZK c,0)=some (gy c):=by
 obtain⟨l0,l1,l2,l3,l4,l5⟩:=XP h
 rw [ot]
 rw [Eh (s':=(ld c,1)) (tB (by omega) (by kernel_rfl) (by kernel_rfl) h.c0 (by dsimp only;omega))]
 rw [Eh (s':=(lf c,2)) (tB (by omega) (by kernel_rfl) (by kernel_rfl) h.c1 (by dsimp only;omega))]
 rw [Eh (s':=(lg c,3)) (tB (by omega) (by kernel_rfl) (by kernel_rfl) h.c2 (by dsimp only;omega))]
 rw [Eh (s':=(lh c,4)) (tB (by omega) (by kernel_rfl) (by kernel_rfl) h.c3 (by dsimp only;omega))]
 rw [Eh (s':=(gy c,5)) (tB (by omega) (by kernel_rfl) (by kernel_rfl) h.c4 (by dsimp only;omega))]
 exact DU (by kernel_rfl)
def zC':A1:=⟨0,0,⟨0,0,0,0,0⟩⟩
def OL (c:A1):List UInt8:=if cj c=false then [] else if c=zC' then P0 else gy c
theorem cn (c:A1):Kv c=some (OL c):=by
 unfold Kv OL
 rw [fD]
 cases hs:cj c
 ·rfl
 ·have h:=XO hs
  simp only [Option.bind_some,Bool.not_true,Bool.false_eq_true,if_false,Bool.true_eq_false]
  rw [show (⟨0,0,⟨0,0,0,0,0⟩⟩:A1)=zC' from rfl]
  by_cases hz:c=zC'
  ·rw [if_pos (beq_iff_eq.2 hz),if_pos hz]
  ·rw [if_neg (fun q=>hz (beq_iff_eq.1 q)),if_neg hz]
   have hr:Mn bW c.X=some (VJ c.X 88):=nl (b:=88) (by have:=h.x;omega)
   rw [hr]
   simp only [Option.bind_some]
   have hg:=h.g
   by_cases h0:0<c.Generic
   ·have e:ZK c=VJ c.X 88++Lib.itoa c.Generic:=by unfold ZK io;rw [if_pos h0]
    rw [if_pos (by simpa using h0),aU (by omega) (by omega)]
    simp only [Option.bind_some]
    rw [JC (by rw [Kp];have:=PF (n:=c.Generic) (by omega) (by omega);have:=h.x;simp [maxLen];omega), ←e]
    simp only [Option.bind_some,F2,fH h,Hv]
   ·have e:ZK c=VJ c.X 88:=by unfold ZK io;rw [if_neg h0,List.append_nil]
    rw [if_neg (by simpa using h0), ←e]
    simp only [Option.bind_some,F2,fH h,Hv]
theorem Zr {B:(List UInt8)×Int→Option (((List UInt8)×Int)⊕(List UInt8))} {s:List UInt8} {n:Int} {b:UInt8} (hn:0≤n∧n≤1000)
 (hgo: ∀ (t:List UInt8) (k:Int),t.length≤s.length+1000→0≤k→k<n→B (t,k)=some (.inl (t++[b],k+1))) (hend: ∀ t,B (t,n)=some (.inr t)):
 iter B FU (s,0)=some (s++VJ n b):=by
 refine bH (fun i=>(s++List.replicate i b,(i:Int))) n.toNat (by omega) (fun i hi=>?_) ?_ (by simp)
 ·rw [hgo _ _ (by simp;omega) (by omega) (by omega),List.append_assoc, ←List.replicate_succ'];rfl
 ·rw [show ((n.toNat:Nat):Int)=n by omega];exact hend _
theorem fI {c:A1} {s:List UInt8} {k e:Int} {b:UInt8} (h:idx c.Color.l k=some e) (h2:ssub L0 k (Ab (k+1))=some [b]) (he:0≤e∧e≤9) (hs:s.length≤1000):
 iter (fun(v:(List UInt8)×Int)=>Hx c k v.1 v.2) FU (s,0)=some (s++VJ e b):=by
 refine Zr (by omega) (fun t j ht h0 h1=>?_) (fun t=>?_)
 ·show Hx c k t j=_
  unfold Hx
  rw [h]
  simp only [Option.bind_some]
  rw [if_pos (by simpa using h1),h2]
  simp only [Option.bind_some]
  rw [JC (by simp [maxLen];omega),BC (by omega) (by omega)];rfl
 ·show Hx c k t e=_
  unfold Hx
  rw [h]
  simp only [Option.bind_some]
  rw [if_neg (by simp)]
theorem nm {c:A1} {s:List UInt8} {k e:Int} {b:UInt8} (hk:k<5) (h:idx c.Color.l k=some e) (h2:ssub L0 k (Ab (k+1))=some [b]) (he:0≤e∧e≤9) (hs:s.length≤1000):
 Kl c s k=some (.inl (s++VJ e b,Ab (k+1))):=by
 unfold Kl
 rw [if_pos (by simpa using hk),fI h h2 he hs];rfl
theorem iq {c:A1} (h:Ok c):iter (fun(v:(List UInt8)×Int)=>Kl c v.1 v.2) FU (ZK c,0)=some (gy c):=by
 obtain⟨l0,l1,l2,l3,l4,l5⟩:=XP h
 rw [ot]
 rw [Eh (s':=(ld c,1)) (nm (by omega) (by kernel_rfl) (by kernel_rfl) h.c0 (by dsimp only;omega))]
 rw [Eh (s':=(lf c,2)) (nm (by omega) (by kernel_rfl) (by kernel_rfl) h.c1 (by dsimp only;omega))]
 rw [Eh (s':=(lg c,3)) (nm (by omega) (by kernel_rfl) (by kernel_rfl) h.c2 (by dsimp only;omega))]
 rw [Eh (s':=(lh c,4)) (nm (by omega) (by kernel_rfl) (by kernel_rfl) h.c3 (by dsimp only;omega))]
 rw [Eh (s':=(gy c,5)) (nm (by omega) (by kernel_rfl) (by kernel_rfl) h.c4 (by dsimp only;omega))]
 exact DU (by kernel_rfl)
theorem ir {c:A1} (h:Ok c):iter (fun(v:(List UInt8)×Int)=>Hy c v.1 v.2) FU ([],0)=some (VJ c.X 88):=by
 have hx:=h.x
 refine(Zr (s:=[]) (n:=c.X) (b:=88) (by omega) (fun t j ht h0 h1=>?_) (fun t=>?_)).trans (by simp)
 ·show Hy c t j=_
  unfold Hy
  rw [if_pos (by simpa using h1),JC (by simp at ht;simp [maxLen,bW];omega),BC (by omega) (by omega)];rfl
 ·show Hy c t c.X=_
  unfold Hy
  rw [if_neg (by simp)]
theorem XQ (n:Nat):Lib.decDigits n ≠ []:=by
 rw [Lib.decDigits];split<;>simp
theorem iu (n:Int):Lib.itoa n ≠ []:=by
 unfold Lib.itoa;split
 ·simp
 ·exact XQ _
theorem Rs {n:Int} {b:UInt8} (h0:0≤n):VJ n b=[]↔n=0:=by
 unfold VJ
 rw [List.replicate_eq_nil_iff];omega
theorem XR {c:A1} (h:Ok c):gy c=[]↔c=zC':=by
 have hg:io c.Generic=[]↔c.Generic=0:=by
  have:=h.g
  unfold io
  by_cases h0:0<c.Generic
  ·rw [if_pos h0];exact⟨fun q=>(iu _ q).elim,fun q=>by omega⟩
  ·rw [if_neg h0];exact⟨fun _=>by omega,fun _=>rfl⟩
 unfold gy lh lg lf ld ZK
 simp only [List.append_eq_nil_iff,Rs h.x.1,Rs h.c0.1,Rs h.c1.1,Rs h.c2.1,Rs h.c3.1,Rs h.c4.1,hg]
 obtain⟨g,x,⟨a,b,d,e,f⟩⟩:=c
 unfold zC'
 simp only [A1.mk.injEq,A5.mk.injEq]
 constructor
 ·rintro⟨⟨⟨⟨⟨⟨h1,h2⟩,h3⟩,h4⟩,h5⟩,h6⟩,h7⟩;exact⟨h2,h1,h3,h4,h5,h6,h7⟩
 ·rintro⟨h2,h1,h3,h4,h5,h6,h7⟩;exact⟨⟨⟨⟨⟨⟨h1,h2⟩,h3⟩,h4⟩,h5⟩,h6⟩,h7⟩
theorem dE (c:A1):Ux c=some (OL c):=by
 unfold Ux OL
 rw [ck]
 cases hs:cj c
 ·rfl
 ·have h:=XO hs
  simp only [Option.bind_some,Bool.not_true,Bool.false_eq_true,if_false,Bool.true_eq_false,ir h]
  have hg:=h.g
  have fin:Ls c (ZK c)=some (if c=zC' then P0 else gy c):=by
   unfold Ls
   rw [iq h]
   simp only [Option.bind_some,RV]
   by_cases hz:c=zC'
   ·rw [if_pos (beq_iff_eq.2 ((XR h).2 hz)),if_pos hz]
   ·rw [if_neg (fun q=>hz ((XR h).1 (beq_iff_eq.1 q))),if_neg hz]
  unfold RW
  by_cases h0:0<c.Generic
  ·have e:ZK c=VJ c.X 88++Lib.itoa c.Generic:=by unfold ZK io;rw [if_pos h0]
   rw [if_pos (by simp;omega),aS (by omega) (by omega)]
   simp only [Option.bind_some]
   rw [JC (by rw [Kp];have:=PF (n:=c.Generic) (by omega) (by omega);have:=h.x;simp [maxLen];omega), ←e]
   simp only [Option.bind_some,fin]
  ·have e:ZK c=VJ c.X 88:=by unfold ZK io;rw [if_neg h0,List.append_nil]
   rw [if_neg (by simp;omega), ←e,fin]
theorem dF (c:A1):(OL c==[])= !cj c:=by
 unfold OL
 cases h:cj c
 ·rfl
 ·rw [if_neg (by simp)]
  by_cases hz:c=zC'
  ·rw [if_pos hz];rfl
  ·rw [if_neg hz]
   have:=XR (XO h)
   rw [Bool.eq_false_iff.2 (fun q=>hz (this.1 (beq_iff_eq.1 q)))];rfl
theorem dG (c:A1):(OL c).length ≤68:=by
 unfold OL
 split
 ·simp
 ·split
  ·decide
  ·rename_i h _
   exact(XP (XO (by simpa using h))).2.2.2.2.2
def WE (a:A6 Int):A1:=⟨a.x0,0,⟨a.x1,a.x2,a.x3,a.x4,a.x5⟩⟩
theorem li (a:A6 Int):Od a=some (WE a):=rfl
theorem iv (a:A6 Int):Y5 a=some (WE a):=by kernel_rfl
theorem lj (a:A6 Int):GA a=some (OL (WE a)):=by
 unfold GA
 rw [li];simp only [Option.bind_some,cn]
theorem iw (a:A6 Int):Kn a=some (OL (WE a)):=by
 unfold Kn
 rw [iv];simp only [Option.bind_some,dE]
def aV (a:A6 Int):Bool:=(List.range 6).all fun i=> !MY 1000000 (a.l.getD i default)
theorem nn (b:Bool):(if b=true then some true else some false)=some b:=by cases b<;>rfl
theorem ix (a:A6 Int):KS a=some (aV a):=by
 unfold KS
 refine(hH (K:=HX) (a:=some false) (p:=fun i=> !MY 1000000 (a.l.getD i default)) (B:=fun v=>Gv a v) 6 (by omega) (fun i hi=>?_) rfl).trans (nn _)
 show Gv a (i:Int)=_
 unfold Gv
 rw [if_pos (by simp only [bz];omega),WC (l:=a.l) hi,wrapS' (by omega)]
 simp only [Option.bind_some,rb]
 cases MY 1000000 (a.l.getD i default)<;>rfl
end Go.PL
