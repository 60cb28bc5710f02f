/- Plain laws of states: costs and pools. -/
import Derived.Test.YtelbpfkjhndccaaGreatDoorPlSbP
namespace Go.PL
open Go
set_option maxRecDepth 100000
set_option linter.all false
set_option maxHeartbeats 1000000
def KU:Nat:=9223372036854775800
theorem uf:FU=KU+1+1+1+1+1+1+1:=rfl
def Ot (m n:Int):Bool:=if decide (n<0)=true then true else decide (m<n)
theorem tf {m n:Int}:Ot m n=false↔0≤n∧n≤m:=by
 unfold Ot
 by_cases h:n<0<;>simp [h]<;>omega
def de (c:AP):Bool:=Ot 9 c.Color.x0||(Ot 9 c.Color.x1||(Ot 9 c.Color.x2||(Ot 9 c.Color.x3||Ot 9 c.Color.x4)))
def il (c:AP):Bool:= !de c&&(decide (0≤c.Generic)&&(decide (c.Generic≤99)&&(decide (0≤c.X)&&decide (c.X≤2))))
theorem jS (c:AP):FQ c 0=(if Ot 9 c.Color.x0=true then some (.inr (.inr ()))else some (.inl 1)):=by kernel_rfl
theorem ml (c:AP):FQ c 1=(if Ot 9 c.Color.x1=true then some (.inr (.inr ()))else some (.inl 2)):=by kernel_rfl
theorem oh (c:AP):FQ c 2=(if Ot 9 c.Color.x2=true then some (.inr (.inr ()))else some (.inl 3)):=by kernel_rfl
theorem ru (c:AP):FQ c 3=(if Ot 9 c.Color.x3=true then some (.inr (.inr ()))else some (.inl 4)):=by kernel_rfl
theorem tg (c:AP):FQ c 4=(if Ot 9 c.Color.x4=true then some (.inr (.inr ()))else some (.inl 5)):=by kernel_rfl
theorem uE (c:AP):FQ c 5=some (.inr (.inl ())):=by kernel_rfl
theorem oi (c:AP):iter (fun(v:Int)=>FQ c v) FU 0=some (if de c=true then .inr ()else .inl ()):=by
 rw [uf]
 unfold de
 cases h0:Ot 9 c.Color.x0
 ·cases h1:Ot 9 c.Color.x1
  ·cases h2:Ot 9 c.Color.x2
   ·cases h3:Ot 9 c.Color.x3
    ·cases h4:Ot 9 c.Color.x4
     ·simp [iter,jS,ml,oh,ru,tg,uE,h0,h1,h2,h3,h4]
     ·simp [iter,jS,ml,oh,ru,tg,h0,h1,h2,h3,h4]
    ·simp [iter,jS,ml,oh,ru,h0,h1,h2,h3]
   ·simp [iter,jS,ml,oh,h0,h1,h2]
  ·simp [iter,jS,ml,h0,h1]
 ·simp [iter,jS,h0]
theorem mm (c:AP):Q6 c=some (il c):=by
 unfold Q6 il
 rw [oi]
 cases de c
 ·simp only [Nq,Option.bind_some,Sum.elim_inl,Bool.false_eq_true,if_false,Bool.not_false,Bool.true_and]
  by_cases h1:0≤c.Generic<;>by_cases h2:c.Generic≤99<;>by_cases h3:0≤c.X<;>simp [h1,h2,h3]
 ·rfl
theorem rb (m e:Int):(if decide (e<(0:Int))=true then true else decide (m<e))=Ot m e:=rfl
theorem uF {β:Type} (m e:Int) (o:Option Int) (f:Bool→Option β) (ho:o=some e):((gd ((decide (e<(0:Int)))==false) o).bind fun e11=>(some (if(decide (e<(0:Int)))=true then true else decide (m<e11))).bind f)=f (Ot m e):=by
 subst ho
 by_cases h:e<0
 ·simp [gd,h,Ot]
 ·simp [gd,h,Ot]
theorem th (c:AP) (k:Int) (e:Int) (hk:k<5) (h:idx c.Color.l k=some e):Fd c k=(if Ot 9 e=true then some (.inr (.inr ()))else some (.inl (Ab (k+1)))):=by
 unfold Fd
 rw [if_pos (by simpa using hk),h,Option.bind_some]
 exact uF 9 e _ _ rfl
theorem jT (c:AP):Fd c 0=(if Ot 9 c.Color.x0=true then some (.inr (.inr ()))else some (.inl 1)):=th c 0 _ (by omega) (by kernel_rfl)
theorem mn (c:AP):Fd c 1=(if Ot 9 c.Color.x1=true then some (.inr (.inr ()))else some (.inl 2)):=th c 1 _ (by omega) (by kernel_rfl)
theorem oj (c:AP):Fd c 2=(if Ot 9 c.Color.x2=true then some (.inr (.inr ()))else some (.inl 3)):=th c 2 _ (by omega) (by kernel_rfl)
theorem rv (c:AP):Fd c 3=(if Ot 9 c.Color.x3=true then some (.inr (.inr ()))else some (.inl 4)):=th c 3 _ (by omega) (by kernel_rfl)
theorem ti (c:AP):Fd c 4=(if Ot 9 c.Color.x4=true then some (.inr (.inr ()))else some (.inl 5)):=th c 4 _ (by omega) (by kernel_rfl)
theorem uG (c:AP):Fd c 5=some (.inr (.inl ())):=by kernel_rfl
theorem mo (c:AP):iter (fun(v:Int)=>Fd c v) FU 0=some (if de c=true then .inr ()else .inl ()):=by
 rw [uf]
 unfold de
 cases h0:Ot 9 c.Color.x0
 ·cases h1:Ot 9 c.Color.x1
  ·cases h2:Ot 9 c.Color.x2
   ·cases h3:Ot 9 c.Color.x3
    ·cases h4:Ot 9 c.Color.x4
     ·simp [iter,jT,mn,oj,rv,ti,uG,h0,h1,h2,h3,h4]
     ·simp [iter,jT,mn,oj,rv,ti,h0,h1,h2,h3,h4]
    ·simp [iter,jT,mn,oj,rv,h0,h1,h2,h3]
   ·simp [iter,jT,mn,oj,h0,h1,h2]
  ·simp [iter,jT,mn,h0,h1]
 ·simp [iter,jT,h0]
theorem io (c:AP):TN c=some (il c):=by
 unfold TN il
 rw [mo]
 by_cases h1:c.Generic<0<;>by_cases h2:99<c.Generic<;>by_cases h3:c.X<0<;>by_cases h4:2<c.X<;>
  simp [h1,h2,h3,h4,show (0≤c.Generic)= ¬(c.Generic<0)from by simp,show (c.Generic≤99)= ¬(99<c.Generic)from by simp,show (0≤c.X)= ¬(c.X<0)from by simp,show (c.X≤2)= ¬(2<c.X)from by simp,OS]<;>cases de c<;>rfl
structure Ok (c:AP):Prop where
 c0:0≤c.Color.x0∧c.Color.x0≤9
 c1:0≤c.Color.x1∧c.Color.x1≤9
 c2:0≤c.Color.x2∧c.Color.x2≤9
 c3:0≤c.Color.x3∧c.Color.x3≤9
 c4:0≤c.Color.x4∧c.Color.x4≤9
 g:0≤c.Generic∧c.Generic≤99
 x:0≤c.X∧c.X≤2
theorem aa {c:AP} (h:il c=true):Ok c:=by
 unfold il at h
 simp only [Bool.and_eq_true,Bool.not_eq_true',decide_eq_true_eq]at h
 obtain⟨h1,h2,h3,h4,h5⟩:=h
 unfold de at h1
 simp only [Bool.or_eq_false_iff,tf]at h1
 obtain⟨a,b,c',d,e⟩:=h1
 exact⟨a,b,c',d,e,⟨h2,h3⟩,⟨h4,h5⟩⟩
theorem mq (n:Int):FC n=gS n:=by kernel_rfl
theorem fV {n:Int} (h0: -9223372036854775808≤n) (h1:n≤9223372036854775807):FC n=some (Lib.itoa n):=by rw [mq,bt h0 h1]
theorem fW {n:Int} (h0: -9223372036854775808≤n) (h1:n≤9223372036854775807):E3 n=some (Lib.itoa n):=by
 unfold E3 bH;rw [if_pos ⟨h0,h1⟩];rfl
def XR (n:Int) (b:UInt8):List UInt8:=List.replicate n.toNat b
theorem MG (n:Int) (b:UInt8):(XR n b).length =n.toNat:=by simp [XR]
theorem ip (b:UInt8): ∀ n,Lib.repeatL [b] n=List.replicate n b
 | 0=>rfl
 | n+1=>by show [b]++Lib.repeatL [b] n=_;rw [ip b n];rfl
theorem tj {b:UInt8} {n:Int} (h:0≤n∧n≤1000):Pi [b] n=some (XR n b):=by
 unfold Pi
 rw [if_pos ⟨h.1,by omega,by simp;omega⟩,ip];rfl
def ol (g:Int):List UInt8:=if 0<g then Lib.itoa g else []
def em (c:AP):List UInt8:=XR c.X 88++ol c.Generic
def rx (c:AP):List UInt8:=em c++XR c.Color.x0 65
def ry (c:AP):List UInt8:=rx c++XR c.Color.x1 67
def rz (c:AP):List UInt8:=ry c++XR c.Color.x2 74
def rA (c:AP):List UInt8:=rz c++XR c.Color.x3 82
def nm (c:AP):List UInt8:=rA c++XR c.Color.x4 69
theorem om {g:Int} (h:0≤g∧g≤99):(ol g).length ≤21:=by
 unfold ol
 split
 ·exact Sx (by omega) (by omega)
 ·simp
theorem ab {c:AP} (h:Ok c):(em c).length ≤23∧(rx c).length ≤32∧(ry c).length ≤41∧(rz c).length ≤50∧(rA c).length ≤59∧(nm c).length ≤68:=by
 have a:=h.c0;have b:=h.c1;have d:=h.c2;have e:=h.c3;have f:=h.c4;have g:=h.g;have x:=h.x
 have hg:=om g
 have h0:(em c).length ≤23:=by unfold em;rw [List.length_append,MG];omega
 have h1:(rx c).length ≤32:=by unfold rx;rw [List.length_append,MG];omega
 have h2:(ry c).length ≤41:=by unfold ry;rw [List.length_append,MG];omega
 have h3:(rz c).length ≤50:=by unfold rz;rw [List.length_append,MG];omega
 have h4:(rA c).length ≤59:=by unfold rA;rw [List.length_append,MG];omega
 exact⟨h0,h1,h2,h3,h4,by unfold nm;rw [List.length_append,MG];omega⟩
theorem tB {c:AP} {s:List UInt8} {k e:Int} {b:UInt8} (hk:k<5) (h:idx c.Color.l k=some e) (h2:ssub OI k (Ab (k+1))=some [b]) (he:0≤e∧e≤9) (hs:s.length≤1000):
 Hu c s k=some (.inl (s++XR e b,Ab (k+1))):=by
 unfold Hu
 rw [if_pos (by simpa using hk),h,h2]
 simp only [Option.bind_some]
 rw [tj (by omega)]
 simp only [Option.bind_some]
 rw [LG (by rw [MG];simp [maxLen];omega)];rfl
theorem mr {c:AP} (h:Ok c):iter (fun(v:(List UInt8)×Int)=>Hu c v.1 v.2) FU (em c,0)=some (nm c):=by
 obtain⟨l0,l1,l2,l3,l4,l5⟩:=ab h
 rw [uf]
 rw [Ew (s':=(rx c,1)) (tB (by omega) (by kernel_rfl) (by kernel_rfl) h.c0 (by dsimp only;omega))]
 rw [Ew (s':=(ry c,2)) (tB (by omega) (by kernel_rfl) (by kernel_rfl) h.c1 (by dsimp only;omega))]
 rw [Ew (s':=(rz c,3)) (tB (by omega) (by kernel_rfl) (by kernel_rfl) h.c2 (by dsimp only;omega))]
 rw [Ew (s':=(rA c,4)) (tB (by omega) (by kernel_rfl) (by kernel_rfl) h.c3 (by dsimp only;omega))]
 rw [Ew (s':=(nm c,5)) (tB (by omega) (by kernel_rfl) (by kernel_rfl) h.c4 (by dsimp only;omega))]
 exact DM (by kernel_rfl)
def zC':AP:=⟨0,0,⟨0,0,0,0,0⟩⟩
def RC (c:AP):List UInt8:=if il c=false then [] else if c=zC' then Ru else nm c
theorem iq (c:AP):MN c=some (RC c):=by
 unfold MN RC
 rw [mm]
 cases hs:il c
 ·rfl
 ·have h:=aa hs
  simp only [Option.bind_some,Bool.not_true,Bool.false_eq_true,if_false,Bool.true_eq_false]
  rw [show (⟨0,0,⟨0,0,0,0,0⟩⟩:AP)=zC' from rfl]
  by_cases hz:c=zC'
  ·rw [if_pos (beq_iff_eq.2 hz),if_pos hz]
  ·rw [if_neg (fun q=>hz (beq_iff_eq.1 q)),if_neg hz]
   have hr:Pi g8 c.X=some (XR c.X 88):=tj (b:=88) (by have:=h.x;omega)
   rw [hr]
   simp only [Option.bind_some]
   have hg:=h.g
   by_cases h0:0<c.Generic
   ·have e:em c=XR c.X 88++Lib.itoa c.Generic:=by unfold em ol;rw [if_pos h0]
    rw [if_pos (by simpa using h0),fW (by omega) (by omega)]
    simp only [Option.bind_some]
    rw [LG (by rw [MG];have:=Sx (n:=c.Generic) (by omega) (by omega);have:=h.x;simp [maxLen];omega), ←e]
    simp only [Option.bind_some,GW,mr h,Iw]
   ·have e:em c=XR c.X 88:=by unfold em ol;rw [if_neg h0,List.append_nil]
    rw [if_neg (by simpa using h0), ←e]
    simp only [Option.bind_some,GW,mr h,Iw]
theorem df {B:(List UInt8)×Int→Option (((List UInt8)×Int)⊕(List UInt8))} {s:List UInt8} {n:Int} {b:UInt8} (hn:0≤n∧n≤1000)
 (hgo: ∀ (t:List UInt8) (k:Int),t.length≤s.length+1000→0≤k→k<n→B (t,k)=some (.inl (t++[b],k+1))) (hend: ∀ t,B (t,n)=some (.inr t)):
 iter B FU (s,0)=some (s++XR n b):=by
 refine gR (fun i=>(s++List.replicate i b,(i:Int))) n.toNat (by omega) (fun i hi=>?_) ?_ (by simp)
 ·rw [hgo _ _ (by simp;omega) (by omega) (by omega),List.append_assoc, ←List.replicate_succ'];rfl
 ·rw [show ((n.toNat:Nat):Int)=n by omega];exact hend _
theorem mt {c:AP} {s:List UInt8} {k e:Int} {b:UInt8} (h:idx c.Color.l k=some e) (h2:ssub OI k (Ab (k+1))=some [b]) (he:0≤e∧e≤9) (hs:s.length≤1000):
 iter (fun(v:(List UInt8)×Int)=>FD c k v.1 v.2) FU (s,0)=some (s++XR e b):=by
 refine df (by omega) (fun t j ht h0 h1=>?_) (fun t=>?_)
 ·show FD c k t j=_
  unfold FD
  rw [h]
  simp only [Option.bind_some]
  rw [if_pos (by simpa using h1),h2]
  simp only [Option.bind_some]
  rw [LG (by simp [maxLen];omega),BD (by omega) (by omega)];rfl
 ·show FD c k t e=_
  unfold FD
  rw [h]
  simp only [Option.bind_some]
  rw [if_neg (by simp)]
theorem tk {c:AP} {s:List UInt8} {k e:Int} {b:UInt8} (hk:k<5) (h:idx c.Color.l k=some e) (h2:ssub OI k (Ab (k+1))=some [b]) (he:0≤e∧e≤9) (hs:s.length≤1000):
 Iy c s k=some (.inl (s++XR e b,Ab (k+1))):=by
 unfold Iy
 rw [if_pos (by simpa using hk),mt h h2 he hs];rfl
theorem oo {c:AP} (h:Ok c):iter (fun(v:(List UInt8)×Int)=>Iy c v.1 v.2) FU (em c,0)=some (nm c):=by
 obtain⟨l0,l1,l2,l3,l4,l5⟩:=ab h
 rw [uf]
 rw [Ew (s':=(rx c,1)) (tk (by omega) (by kernel_rfl) (by kernel_rfl) h.c0 (by dsimp only;omega))]
 rw [Ew (s':=(ry c,2)) (tk (by omega) (by kernel_rfl) (by kernel_rfl) h.c1 (by dsimp only;omega))]
 rw [Ew (s':=(rz c,3)) (tk (by omega) (by kernel_rfl) (by kernel_rfl) h.c2 (by dsimp only;omega))]
 rw [Ew (s':=(rA c,4)) (tk (by omega) (by kernel_rfl) (by kernel_rfl) h.c3 (by dsimp only;omega))]
 rw [Ew (s':=(nm c,5)) (tk (by omega) (by kernel_rfl) (by kernel_rfl) h.c4 (by dsimp only;omega))]
 exact DM (by kernel_rfl)
theorem oq {c:AP} (h:Ok c):iter (fun(v:(List UInt8)×Int)=>FE c v.1 v.2) FU ([],0)=some (XR c.X 88):=by
 have hx:=h.x
 refine(df (s:=[]) (n:=c.X) (b:=88) (by omega) (fun t j ht h0 h1=>?_) (fun t=>?_)).trans (by simp)
 ·show FE c t j=_
  unfold FE
  rw [if_pos (by simpa using h1),LG (by simp at ht;simp [maxLen,g8];omega),BD (by omega) (by omega)];rfl
 ·show FE c t c.X=_
  unfold FE
  rw [if_neg (by simp)]
theorem ac (n:Nat):Lib.decDigits n ≠ []:=by
 rw [Lib.decDigits];split<;>simp
theorem ot (n:Int):Lib.itoa n ≠ []:=by
 unfold Lib.itoa;split
 ·simp
 ·exact ac _
theorem T8 {n:Int} {b:UInt8} (h0:0≤n):XR n b=[]↔n=0:=by
 unfold XR
 rw [List.replicate_eq_nil_iff];omega
theorem ae {c:AP} (h:Ok c):nm c=[]↔c=zC':=by
 have hg:ol c.Generic=[]↔c.Generic=0:=by
  have:=h.g
  unfold ol
  by_cases h0:0<c.Generic
  ·rw [if_pos h0];exact⟨fun q=>(ot _ q).elim,fun q=>by omega⟩
  ·rw [if_neg h0];exact⟨fun _=>by omega,fun _=>rfl⟩
 unfold nm rA rz ry rx em
 simp only [List.append_eq_nil_iff,T8 h.x.1,T8 h.c0.1,T8 h.c1.1,T8 h.c2.1,T8 h.c3.1,T8 h.c4.1,hg]
 obtain⟨g,x,⟨a,b,d,e,f⟩⟩:=c
 unfold zC'
 simp only [AP.mk.injEq,A5.mk.injEq]
 constructor
 ·rintro⟨⟨⟨⟨⟨⟨h1,h2⟩,h3⟩,h4⟩,h5⟩,h6⟩,h7⟩;exact⟨h2,h1,h3,h4,h5,h6,h7⟩
 ·rintro⟨h2,h1,h3,h4,h5,h6,h7⟩;exact⟨⟨⟨⟨⟨⟨h1,h2⟩,h3⟩,h4⟩,h5⟩,h6⟩,h7⟩
theorem jU (c:AP):QA c=some (RC c):=by
 unfold QA RC
 rw [io]
 cases hs:il c
 ·rfl
 ·have h:=aa hs
  simp only [Option.bind_some,Bool.not_true,Bool.false_eq_true,if_false,Bool.true_eq_false,oq h]
  have hg:=h.g
  have fin:H1 c (em c)=some (if c=zC' then Ru else nm c):=by
   unfold H1
   rw [oo h]
   simp only [Option.bind_some,LS]
   by_cases hz:c=zC'
   ·rw [if_pos (beq_iff_eq.2 ((ae h).2 hz)),if_pos hz]
   ·rw [if_neg (fun q=>hz ((ae h).1 (beq_iff_eq.1 q))),if_neg hz]
  unfold LT
  by_cases h0:0<c.Generic
  ·have e:em c=XR c.X 88++Lib.itoa c.Generic:=by unfold em ol;rw [if_pos h0]
   rw [if_pos (by simp;omega),fV (by omega) (by omega)]
   simp only [Option.bind_some]
   rw [LG (by rw [MG];have:=Sx (n:=c.Generic) (by omega) (by omega);have:=h.x;simp [maxLen];omega), ←e]
   simp only [Option.bind_some,fin]
  ·have e:em c=XR c.X 88:=by unfold em ol;rw [if_neg h0,List.append_nil]
   rw [if_neg (by simp;omega), ←e,fin]
theorem jV (c:AP):(RC c==[])= !il c:=by
 unfold RC
 cases h:il c
 ·rfl
 ·rw [if_neg (by simp)]
  by_cases hz:c=zC'
  ·rw [if_pos hz];rfl
  ·rw [if_neg hz]
   have:=ae (aa h)
   rw [Bool.eq_false_iff.2 (fun q=>hz (this.1 (beq_iff_eq.1 q)))];rfl
theorem jW (c:AP):(RC c).length ≤68:=by
 unfold RC
 split
 ·simp
 ·split
  ·decide
  ·rename_i h _
   exact(ab (aa (by simpa using h))).2.2.2.2.2
def YI (a:A6 Int):AP:=⟨a.x0,0,⟨a.x1,a.x2,a.x3,a.x4,a.x5⟩⟩
theorem rC (a:A6 Int):Q5 a=some (YI a):=rfl
theorem ou (a:A6 Int):SW a=some (YI a):=by kernel_rfl
theorem rD (a:A6 Int):Hv a=some (RC (YI a)):=by
 unfold Hv
 rw [rC];simp only [Option.bind_some,iq]
theorem ov (a:A6 Int):IF a=some (RC (YI a)):=by
 unfold IF
 rw [ou];simp only [Option.bind_some,jU]
def W8 (a:A6 Int):Bool:=(List.range 6).all fun i=> !Ot 1000000 (a.l.getD i default)
theorem jX (b:Bool):(if b=true then some true else some false)=some b:=by cases b<;>rfl
theorem ow (a:A6 Int):Nl a=some (W8 a):=by
 unfold Nl
 refine(Z8 (K:=Je) (a:=some false) (p:=fun i=> !Ot 1000000 (a.l.getD i default)) (B:=fun v=>Hq a v) 6 (by omega) (fun i hi=>?_) rfl).trans (jX _)
 show Hq a (i:Int)=_
 unfold Hq
 rw [if_pos (by simp only [bz];omega),RB (l:=a.l) hi,wrapS' (by omega)]
 simp only [Option.bind_some,rb]
 cases Ot 1000000 (a.l.getD i default)<;>rfl
theorem mu (a:A6 Int):ON a=some (W8 a):=by
 unfold ON
 refine(Z8 (K:=Kq) (a:=some false) (p:=fun i=> !Ot 1000000 (a.l.getD i default)) (B:=fun v=>Ip a v) 6 (by omega) (fun i hi=>?_) rfl).trans (jX _)
 show Ip a (i:Int)=_
 unfold Ip
 rw [if_pos (by simp only [bz];omega),RB (l:=a.l) hi,wrapS' (by omega)]
 rw [Option.bind_some,uF 1000000 _ _ _ rfl]
 cases Ot 1000000 (a.l.getD i default)<;>rfl
end Go.PL
