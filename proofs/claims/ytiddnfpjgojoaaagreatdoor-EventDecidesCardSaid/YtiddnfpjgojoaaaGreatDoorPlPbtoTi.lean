/- The pure logic: PlPb, PlPc, PlPl, PlPs, PlPe, PlPf, PlPg, PlPh, PlPi, PlPj, PlPk, PlPm, PlPn, PlPo, PlPp, PlPr, PlPt, PlPv, PlPz, PlQa, Ta, Tb, Tc, Td, Te, Tf, Tg, Th, Ti. -/
import Derived.Test.YtiddnfpjgojoaaaGreatDoorPlRtoPlPa
import Derived.Lib.ConvBytes
import Derived.Lib.AtoiErrMem
import Derived.Laws.Cover3
import Derived.Scope
import Derived.Lib.AppendStr
import Derived.Lib.Builder
import Derived.Lib.UnsafeStr
import Derived.MapKept
namespace Go.PL
open Go Go.RowKit Go.WideShapes Go.ChangeShapes
def Cm (k:IntKind) (v:Int):Prop:=(Lit.int k v).wf =true
def cf (_:Bool):Prop:=True
def uG (v:List UInt8):Prop:=v.length≤reachBytes
def Yq {α:Type} (b:Nat) (ok:α→Prop) (l:List α):Prop:=l.length*b≤reachBytes∧ ∀ y∈l,ok y
section
variable {P:Program} {t e:TypeId} {n:Nat} {cs:List C}
theorem dI {k:IntKind} (hu:P.underlying t=some (.int k)) (h:Bh P n t cs): ∃ z,cs=eI k z∧Cm k z:=oa hu h
theorem dB (hu:P.underlying t=some .bool) (h:Bh P n t cs): ∃ b,cs=eB b∧cf b:=jy hu h
theorem dS (hu:P.underlying t=some .string) (h:Bh P n t cs): ∃ s,cs=eS s∧uG s:=ob hu h
theorem dL {α:Type} {enc:α→List C} {ok:α→Prop} {b:Nat} (hu:P.underlying t=some (.slice e)) (hb:P.bytesOf e=b) (hd: ∀ {n ds},Bh P n e ds→ ∃ x,ds=enc x∧ok x) (h:Bh P n t cs):
 ∃ l:List α,cs=eL enc l∧Yq b ok l:=pQ hu hb (fun _ _=>hd) h
theorem dA {α:Type} {m:Nat} {enc:α→List C} {ok:α→Prop} (hu:P.underlying t=some (.array m e)) (hd: ∀ {n ds},Bh P n e ds→ ∃ x,ds=enc x∧ok x) (h:Bh P n t cs):
 ∃ l:List α,l.length=m∧cs=l.flatMap enc∧ ∀ y∈l,ok y:=by
 cases n with
 | zero=>exact h.elim
 | succ n=>
   simp only [Bh,hu]at h
   obtain⟨dss,rfl,h2,h3⟩:=h
   obtain⟨l,rfl,h5⟩:=Wj (fun _=>hd) h3
   exact⟨l,by simpa using h2,by rw [List.flatMap_def],h5⟩
end
section
variable {R:TypeId→List C→Prop}
theorem Ap {t:TypeId} {ts:List TypeId} {α β:Type} {e:α→List C} {E:β→List C} {ok:α→Prop} {OK:β→Prop} (hd: ∀ {ds},R t ds→ ∃ x,ds=e x∧ok x) (hr: ∀ {dss},R4 R ts dss→ ∃ y,dss.flatten=E y∧OK y) {dss:List (List C)} (h:R4 R (t::ts) dss):
 ∃ p:α×β,dss.flatten=e p.1++E p.2∧ok p.1∧OK p.2:=by
 simp only [R4]at h
 obtain⟨ds,r,rfl,h1,h2⟩:=h
 obtain⟨x,rfl,h3⟩:=hd h1
 obtain⟨y,h4,h5⟩:=hr h2
 exact⟨(x,y),by rw [List.flatten_cons,h4],h3,h5⟩
theorem Ej {dss:List (List C)} (h:R4 R [] dss): ∃ _:Unit,dss.flatten=[]∧True:=by
 simp only [R4]at h
 subst h
 exact⟨(),rfl,trivial⟩
end
section
variable {H:Type} {enc:TypeId×Value→H} {P:Program} {W:World} {spare:Nat→Bool} {r:Reach} {base:Nat} {t:TypeId} {v:Value} {d:DataW H} {ps:List MemPlace}
theorem O9 {ts:List TypeId} {ds:List (DataW H)} (h:(DataW.weightsEach P (t::ts) (d::ds)).all (· ≤reachBytes)=true):(d.weights P t).all (· ≤reachBytes)=true∧(DataW.weightsEach P ts ds).all (· ≤reachBytes)=true:=by
 simpa only [DataW.weightsEach,List.all_append,Bool.and_eq_true] using h
theorem mU {α:Type} {e:α→List C} {ok:α→Prop} {fs:Array Field} (k:Nat) (hk:sG P k t=true) (hu:P.underlying t=some (.struct fs)) (hd: ∀ {n cs},Bh P n t cs→ ∃ x,cs=e x∧ok x)
 (hv:Value.okWide P W r base t v) (h:DataW.Trod enc P W 0 spare true t v d ps) (hw:(d.weights P t).all (· ≤reachBytes)=true): ∃ x,ok x∧Am W (im fun _=>False) (vA e x) v:=by
 obtain⟨arr,rfl,_⟩:=okWide_struct hu hv
 obtain⟨fuel,h⟩:=h
 obtain⟨cs,h1,h2,_⟩:=JH (G:=im fun _=>False) (fun _ _ h=>h) k t hk fuel _ _ h hw
 obtain⟨x,rfl,h4⟩:=hd h2
 exact⟨x,h4,by simp only [Am];exact⟨arr,rfl,h1⟩⟩
theorem tk {α:Type} {e:α→C} {ok:α→Prop} (k:Nat) (hk:sG P k t=true) (hd: ∀ {n cs},Bh P n t cs→ ∃ x,cs=[e x]∧ok x)
 (hc:v.cells.toList=[v]) (h:DataW.Trod enc P W 0 spare true t v d ps) (hw:(d.weights P t).all (· ≤reachBytes)=true): ∃ x,ok x∧Am W (im fun _=>False) (.c (e x)) v:=by
 obtain⟨fuel,h⟩:=h
 obtain⟨cs,h1,h2,_⟩:=JH (G:=im fun _=>False) (fun _ _ h=>h) k t hk fuel _ _ h hw
 obtain⟨x,rfl,h4⟩:=hd h2
 rw [hc]at h1
 simp only [AG]at h1
 exact⟨x,h4,by simp only [Am];exact h1.1⟩
theorem vE {α:Type} {e:α→List C} {ok:List α→Prop} {u:TypeId} (n:Nat) (hk:sG P n t=true) (hu:P.underlying t=some (.slice u)) (hd: ∀ {n cs},Bh P n t cs→ ∃ x,cs=eL e x∧ok x)
 (hv:Value.okWide P W r base t v) (h:DataW.Trod enc P W 0 spare true t v d ps) (hw:(d.weights P t).all (· ≤reachBytes)=true): ∃ x,ok x∧Am W (im fun _=>False) (vL e x) v:=by
 obtain⟨a,len,cap,rfl⟩:=okWide_slice hu hv
 exact tk (e:=fun x:List α=> .sl x.length (x.flatMap e)) n hk hd rfl h hw
end
end Go.PL
namespace Go.PL
open Go
def W {α:Type} (o:Option α) (Q:α→Prop):Prop:= ∃ r,o=some r∧Q r
def LQ {σ ρ:Type} (I:σ→Prop) (m:σ→Nat) (s:σ) (K:ρ→Prop):σ⊕ρ→Prop:=Sum.elim (fun s'=>I s'∧m s'<m s) K
section
variable {α β σ ρ:Type} {o:Option α} {P Q':α→Prop} {f:α→Option β} {Q:β→Prop} {v:α} {g c:Bool}
theorem W.bd (h:W o P) (k: ∀ x,P x→W (f x) Q):W (o.bind f) Q:=by
 obtain⟨r,rfl,h2⟩:=h;exact k r h2
theorem W.lt (k: ∀ x,x=v→W (f x) Q):W ((some v).bind f) Q:=k v rfl
theorem W.rt {v:β} (h:Q v):W (some v) Q:=⟨v,rfl,h⟩
theorem W.if {a b:Option β} (k1:c=true→W a Q) (k2:c=false→W b Q):W (if c=true then a else b) Q:=by
 cases c
 ·exact k2 rfl
 ·exact k1 rfl
theorem W.imp {Q2:α→Prop} (h:W o P) (k: ∀ x,P x→Q2 x):W o Q2:=by obtain⟨r,h1,h2⟩:=h;exact⟨r,h1,k r h2⟩
theorem W.gb [Inhabited α] (h:g=true→W o P) (k: ∀ x,(g=true→P x)→W (f x) Q):W ((gd g o).bind f) Q:=by
 cases g
 ·exact k default (fun h=>by cases h)
 ·obtain⟨r,h1,h2⟩:=h rfl
  rw [th,h1]
  exact k r (fun _=>h2)
theorem P8 [Inhabited α] {l:List α} {i:Nat} (h:i<l.length):l.getD i default∈l:=by
 rw [List.getD_eq_getElem?_getD,List.getElem?_eq_getElem h]
 exact List.getElem_mem h
theorem W.idx [Inhabited α] {l:List α} {i:Int} (h:0≤i∧i<l.length):W (idx l i) (fun e=>e∈l∧e=l.getD i.toNat default∧idx l i=some e):=
 ⟨_,fl h,P8 (by omega),rfl,fl h⟩
theorem W.re (h:o=some v) (k:W (f v) Q):W (o.bind f) Q:=by subst h;exact k
theorem W.app {b:Nat} {l m:List α} (h:(l.length+m.length)*b≤140737488355328) (h2:l.length+m.length≤maxLen):W (app b l m) (fun e=>e=l++m):=⟨_,fo ⟨h,h2⟩,rfl⟩
theorem W.cat {a b:List UInt8} (h:a.length+b.length≤9223372036854775807):W (cat a b) (fun e=>e=a++b∧e.length=a.length+b.length):=⟨_,fp (by unfold maxLen;omega),rfl,List.length_append⟩
theorem W.need {p:Prop} [Decidable p] (h:p):W (need p) (fun _=>True):=⟨_,Sc h,trivial⟩
theorem W.nx {I:σ→Prop} {m:σ→Nat} {s s':σ} {K:ρ→Prop} (h:I s') (h2:m s'<m s):W (some (.inl s':σ⊕ρ)) (LQ I m s K):=⟨_,rfl,h,h2⟩
theorem W.ex {I:σ→Prop} {m:σ→Nat} {s:σ} {K:ρ→Prop} {r:ρ} (h:K r):W (some (.inr r:σ⊕ρ)) (LQ I m s K):=⟨_,rfl,h⟩
theorem qg {B:σ→Option (σ⊕ρ)} {I:σ→Prop} {m:σ→Nat} {K:ρ→Prop} (hs: ∀ s,I s→W (B s) (LQ I m s K)): ∀ (n:Nat) (s:σ),I s→m s<n→W (iter B n s) K
 | 0,_,_,h=>by omega
 | n+1,s,hI,hm=>by
   obtain⟨x,h1,h2⟩:=hs s hI
   cases x with
   | inl s'=>rw [mR h1];exact qg hs n s' h2.1 (by have:=h2.2;omega)
   | inr r=>rw [Wt h1];exact⟨r,rfl,h2⟩
theorem W.it {B:σ→Option (σ⊕ρ)} {f:ρ→Option β} {s0:σ} (I:σ→Prop) (m:σ→Nat) (h0:I s0) (hm:m s0<9223372036854775807) (hs: ∀ s,I s→W (B s) (LQ I m s (fun r=>W (f r) Q))):W ((iter B FU s0).bind f) Q:=by
 obtain⟨r,h1,h2⟩:=qg hs FU s0 h0 hm
 rw [h1]
 exact h2
end
theorem W.sidx {l:List UInt8} {i:Int} (h:0≤i∧i<l.length):W (sidx l i) (fun e=>0≤e∧e<256):=by
 refine⟨_,if_pos h,?_,?_⟩
 ·omega
 ·have:=(l.getD i.toNat 0).toNat_lt
  omega
theorem W.ssub {l:List UInt8} {i j:Int} (h:0≤i∧i≤j∧j≤l.length):W (ssub l i j) (fun e=>(e.length:Int)=j - i):=by
 refine⟨_,if_pos h,?_⟩
 simp only [List.length_take,List.length_drop]
 omega
theorem yL {p:Prop} [Decidable p] {b:Bool}:((if p then true else b)=true)=(p∨b=true):=by by_cases h:p<;>simp [h]
theorem yM {p:Prop} [Decidable p] {b:Bool}:((if p then true else b)=false)=(¬p∧b=false):=by by_cases h:p<;>simp [h]
theorem yN {p:Prop} [Decidable p] {b:Bool}:((if p then b else false)=true)=(p∧b=true):=by by_cases h:p<;>simp [h]
theorem yO {p:Prop} [Decidable p] {b:Bool}:((if p then b else false)=false)=(¬p∨b=false):=by by_cases h:p<;>simp [h]
theorem yP {a:Bool}:((!a)=true)=(a=false):=by cases a<;>simp
theorem yQ {a:Bool}:((!a)=false)=(a=true):=by cases a<;>simp
theorem yR {p:Prop} [Decidable p]:(decide p=true)=p:=by simp
theorem yS {p:Prop} [Decidable p]:(decide p=false)= ¬p:=by simp
theorem yT {a b:Int}:((a==b)=true)=(a=b):=by simp
theorem yU {a b:Int}:((a==b)=false)= ¬(a=b):=by simp
theorem xj {a b:Int}:((a != b)=true)= ¬(a=b):=by simp
theorem xk {a b:Int}:((a != b)=false)=(a=b):=by simp
theorem xl {a:Bool}:((a==true)=true)=(a=true):=by cases a<;>simp
theorem xm {a:Bool}:((a==true)=false)=(a=false):=by cases a<;>simp
theorem xn {a:Bool}:((a==false)=true)=(a=false):=by cases a<;>simp
theorem xo {a:Bool}:((a==false)=false)=(a=true):=by cases a<;>simp
theorem xp {a b:Bool}:((a&&b)=true)=(a=true∧b=true):=by cases a<;>simp
theorem xq {a b:Bool}:((a&&b)=false)=(a=false∨b=false):=by cases a<;>simp
theorem xr {a b:List UInt8}:((a==b)=true)=(a=b):=by simp
theorem xt {a b:List UInt8}:((a==b)=false)= ¬(a=b):=by simp
theorem xu {a b:List UInt8}:((a != b)=true)= ¬(a=b):=by simp
theorem xv {a b:List UInt8}:((a != b)=false)=(a=b):=by simp
theorem xw {a:Bool}:(¬(a=true))=(a=false):=by cases a<;>simp
theorem xx {a:Bool}:(¬(a=false))=(a=true):=by cases a<;>simp
theorem xy {p q:Prop}:(¬(p∨q))=(¬p∧ ¬q):=propext not_or
theorem bz:(∀ {p:Prop} [Decidable p] {b:Bool},((if p then true else b)=true)=(p∨b=true))∧(∀ {p:Prop} [Decidable p] {b:Bool},((if p then true else b)=false)=(¬p∧b=false))∧(∀ {p:Prop} [Decidable p] {b:Bool},((if p then b else false)=true)=(p∧b=true))∧(∀ {p:Prop} [Decidable p] {b:Bool},((if p then b else false)=false)=(¬p∨b=false))∧(∀ {a:Bool},((!a)=true)=(a=false))∧(∀ {a:Bool},((!a)=false)=(a=true))∧(∀ {p:Prop} [Decidable p],(decide p=true)=p)∧(∀ {p:Prop} [Decidable p],(decide p=false)= ¬p)∧(∀ {a b:Int},((a==b)=true)=(a=b))∧(∀ {a b:Int},((a==b)=false)= ¬(a=b))∧(∀ {a b:Int},((a != b)=true)= ¬(a=b))∧(∀ {a b:Int},((a != b)=false)=(a=b))∧(∀ {a:Bool},((a==true)=true)=(a=true))∧(∀ {a:Bool},((a==true)=false)=(a=false))∧(∀ {a:Bool},((a==false)=true)=(a=false))∧(∀ {a:Bool},((a==false)=false)=(a=true))∧(∀ {a b:Bool},((a&&b)=true)=(a=true∧b=true))∧(∀ {a b:Bool},((a&&b)=false)=(a=false∨b=false))∧(∀ {a b:List UInt8},((a==b)=true)=(a=b))∧(∀ {a b:List UInt8},((a==b)=false)= ¬(a=b))∧(∀ {a b:List UInt8},((a != b)=true)= ¬(a=b))∧(∀ {a b:List UInt8},((a != b)=false)=(a=b))∧(∀ {a:Bool},(¬(a=true))=(a=false))∧(∀ {a:Bool},(¬(a=false))=(a=true))∧(∀ {p q:Prop},(¬(p∨q))=(¬p∧ ¬q)):=⟨@yL, @yM, @yN, @yO, @yP, @yQ, @yR, @yS, @yT, @yU, @xj, @xk, @xl, @xm, @xn, @xo, @xp, @xq, @xr, @xt, @xu, @xv, @xw, @xx, @xy⟩
def Fq (s:List UInt8):Prop:=s.length≤140737488355328
def B3 {α:Type} (b:Nat) (lk:α→Prop) (l:List α):Prop:=l.length*b≤140737488355328∧ ∀ y∈l,lk y
def IH {α:Type} (_:α):Prop:=True
theorem mV {α:Type} {b:Nat} {lk:α→Prop} {l:List α} (hb:1≤b) (h:B3 b lk l):l.length≤140737488355328:=by
 have h1:=h.1
 have:l.length*1≤l.length*b:=Nat.mul_le_mul_left _ hb
 omega
theorem Wu {s:List UInt8} (h:uG s):Fq s:=by unfold uG reachBytes at h;unfold Fq;omega
theorem CO {α:Type} {b:Nat} {ok lk:α→Prop} {l:List α} (k: ∀ y,ok y→lk y) (h:Yq b ok l):B3 b lk l:=⟨by have:=h.1;unfold reachBytes at this;omega,fun y hy=>k y (h.2 y hy)⟩
theorem Bo {α:Type} {b:Nat} {lk:α→Prop} {l:List α} {e:α} (h:B3 b lk l) (he:e∈l):lk e:=h.2 e he
theorem G0 {α:Type} {b:Nat} {lk:α→Prop}:B3 b lk ([]:List α):=⟨by simp,by simp⟩
theorem BS {l:List (List UInt8)} {n:Nat} (h2: ∀ y∈l,y.length≤n) (h:l.length≤8796093022207) (hn:n≤140737488355328):B3 16 Fq l:=⟨by omega,fun y hy=>Nat.le_trans (h2 y hy) hn⟩
theorem D9 {α:Type} {p:α→Prop} {l m:List α} (h: ∀ y∈l,p y) (h2: ∀ y∈m,p y): ∀ y∈l++m,p y:=fun y hy=>(List.mem_append.1 hy).elim (h y) (h2 y)
theorem Ea {α:Type} {p:α→Prop} {x:α} (h:p x): ∀ y∈[x],p y:=fun y hy=>by
 rw [List.mem_singleton]at hy;exact hy▸h
theorem qh {i:Int} (h:0≤i∧i≤16):Ac ((1:Int)*2 ^ (min i.toNat (IntKind.i64).bits)) ≠ 0:=by
 have:i=0∨i=1∨i=2∨i=3∨i=4∨i=5∨i=6∨i=7∨i=8∨i=9∨i=10∨i=11∨i=12∨i=13∨i=14∨i=15∨i=16:=by omega
 rcases this with rfl | rfl | rfl | rfl | rfl | rfl | rfl | rfl | rfl | rfl | rfl | rfl | rfl | rfl | rfl | rfl | rfl<;>decide
end Go.PL
namespace Go.PL
open Go
set_option linter.all false
section
variable {α:Type} [Inhabited α] [DecidableEq α] {l m:List α} {B:Int→Option (Int⊕(Unit⊕Unit))}
end
section
variable {α:Type} [Inhabited α] [DecidableEq α] {l m:List α} {B:Int→Option (Int⊕(Unit⊕Unit))}
end
abbrev T {α:Type} (o:Option α):Prop:= ∃ r,o=some r
end Go.PL
namespace Go.PL
set_option linter.all false
theorem ZS {α:Type} {p q:α→Bool}: ∀ {l:List α},(∀ x∈l,p x=true→q x=true)→(∃ x∈l,q x=true∧p x=false)→(l.filter p).length <(l.filter q).length
 | [],_,h=>by obtain⟨x,hx,_⟩:=h;cases hx
 | a::l,h,hx=>by
   have hle: ∀ {m:List α},(∀ x∈m,p x=true→q x=true)→(m.filter p).length ≤(m.filter q).length :=by
    intro m
    induction m with
    | nil=>intro _;simp
    | cons b m ih=>
      intro hm
      have:=ih (fun x hx=>hm x (by simp [hx]))
      rw [List.filter_cons,List.filter_cons]
      have hb:=hm b (by simp)
      cases hp:p b<;>cases hq:q b<;>simp_all
      omega
   obtain⟨x,hx,hq,hp⟩:=hx
   rw [List.filter_cons,List.filter_cons]
   rcases List.mem_cons.1 hx with rfl | hx
   ·rw [if_neg (by simp [hp]),if_pos hq]
    have:=hle (m:=l) (fun y hy=>h y (by simp [hy]))
    simp;omega
   ·have ih:=ZS (l:=l) (fun y hy=>h y (by simp [hy])) ⟨x,hx,hq,hp⟩
    have ha:=h a (by simp)
    cases hpa:p a
    ·rw [if_neg (by simp)]
     split<;>simp<;>omega
    ·rw [if_pos rfl,if_pos (ha hpa)]
     simp;omega
theorem qi {α:Type} (μ:α→Nat): ∀ (l:List α),l ≠ []→ ∃ k∈l, ∀ n∈l,μ k≤μ n
 | [],h=>absurd rfl h
 | [a],_=>⟨a,by simp,fun n hn=>by simp at hn;subst hn;exact Nat.le_refl _⟩
 | a::b::l,_=>by
   obtain⟨k,hk,hm⟩:=qi μ (b::l) (by simp)
   rcases Nat.le_total (μ a) (μ k)with q | q
   ·exact⟨a,by simp,fun n hn=>by
     rcases List.mem_cons.1 hn with rfl | hn
     ·exact Nat.le_refl _
     ·exact Nat.le_trans q (hm n hn)⟩
   ·exact⟨k,by simp [List.mem_cons.1 hk],fun n hn=>by
     rcases List.mem_cons.1 hn with rfl | hn
     ·exact q
     ·exact hm n hn⟩
theorem fw {α:Type} [DecidableEq α] (l:List α) (hne:l ≠ []) (need:α→α→Prop) (out:α→List α)
 (hclosed: ∀ i∈l, ∀ x,(x=i∨x∈out i)→ ∀ y∈l,need x y→y∈out i)
 (hmin: ∀ i∈l, ∀ S:α→Prop,(∀ x,(x=i∨S x)→ ∀ y∈l,need x y→S y)→ ∀ x∈out i,S x):
 ∃ k∈l, ∀ n∈l,n ≠ k→need k n→k∈out n:=by
 obtain⟨k,hk,hm⟩:=qi (fun i=>(l.filter fun x=>decide (x=i∨x∈out i)).length) l hne
 refine⟨k,hk,fun n hn hnk hneed=>?_⟩
 have h1:n∈out k:=hclosed k hk k (.inl rfl) n hn hneed
 have h2: ∀ x∈out n,x∈out k:=hmin n hn (fun x=>x∈out k) (fun x hx y hy hxy=>by
  rcases hx with rfl | hx
  ·exact hclosed k hk x (.inr h1) y hy hxy
  ·exact hclosed k hk x (.inr hx) y hy hxy)
 by_cases hc:k∈out n
 ·exact hc
 ·exfalso
  have:=hm n hn
  have hlt:=ZS (l:=l) (p:=fun x=>decide (x=n∨x∈out n)) (q:=fun x=>decide (x=k∨x∈out k)) (fun x _ hx=>by
   simp only [decide_eq_true_eq]at hx ⊢
   rcases hx with rfl | hx
   ·exact .inr h1
   ·exact .inr (h2 x hx)) ⟨k,hk,by simp,by simp [Ne.symm hnk,hc]⟩
  omega
end Go.PL
namespace Go.PL
open Go Go.RowKit
theorem aC {p:Prop} {l:List Prop} (h:p) (k:Bb l):Bb (p::l):=⟨h,k⟩
theorem aN:Bb []:=trivial
abbrev sl (n:Nat) (l:List (Nat×V)) (so:List AY):St:=⟨slots n 0 l,so,[],[]⟩
abbrev sg (n:Nat) (l:List (Nat×V)) (so:List AY) (m:Nat) (g:List (Nat×V)) (p:AC):St:=⟨slots n 0 l,so,slots m 0 g,p⟩
theorem lT {st st':St} (h:Ol st st'=some st':=by kernel_rfl):Ch st st':=Ch.t h
def Sd:List AC→Bool
 | []=>true
 | i::l=> !(l.contains i)&&Sd l
theorem Me: ∀ {l:List AC},Sd l=true→l.Nodup
 | [],_=>by simp
 | i::l,h=>by
   simp only [Sd,Bool.and_eq_true,Bool.not_eq_true']at h
   refine List.nodup_cons.2 ⟨fun hm=>?_,Me h.2⟩
   have:=List.contains_iff_mem.2 hm
   rw [h.1]at this;cases this
theorem Ch.trans {a b c:St} (h:Ch a b) (k:Ch b c):Ch a c where
 len:=k.len.trans h.len
 tm:=fun i=>by
  rcases k.tm i with q | q
  ·exact .inl q
  ·rw [q];exact h.tm i
 so:=fun e he=>h.so e (k.so e he)
 nd:=fun hn=>k.nd (h.nd hn)
 gh:=⟨k.gh.1.trans h.gh.1,fun i=>by
  rcases k.gh.2 i with q | q
  ·exact .inl q
  ·rw [q];exact h.gh.2 i⟩
 pre:=k.pre.trans h.pre
def St.ids (st:St):List AC:=st.so.map (·.id)
theorem lU {st st':St} (hn:Sd st'.ids=true:=by kernel_rfl) (h:Ol (jQ st'.ids st) st'=some st':=by kernel_rfl):Ch st st':=(Sa _ (Me hn) st).trans (Ch.t h)
section
variable {P:Program} {F:Fr} {st:St} {id:Nat} {l:List Oper} {c:Code} {Q:Exit→St→Prop} {cs:List Prop} {K:St→Prop}
theorem Rg (ss:List Stp) (st':St) (hl:Bb cs) (h:Aj P F c st' Q) (hr:fk (HF P F.I false l.toArray l ss st) st'=some (cs,st'):=by kernel_rfl):Aj P F (.seq (.region id l.toArray false) c) st Q:=Aj.rg st' hr hl h
theorem Re (ss:List Stp) (st':St) (hl:Bb cs) (h:Q .normal st') (hr:HF P F.I false l.toArray l ss st=some (cs,st'):=by kernel_rfl):Aj P F (.region id l.toArray false) st Q:=Aj.reg hr hl h
theorem Rp {I:World→Prop} {ops:Array Oper} (n:Nat) (ss:List Stp) (st':St) (hc:Bb cs) (hK:CF P I ops (l.drop n) st' K) (h:HF P I false ops (l.take n) ss st=some (cs,st'):=by kernel_rfl):CF P I ops l st K:=Run.part n st' h hc hK
theorem Ls (st':St) (h:Aj P F c st' Q) (hl:Ol st st'=some st':=by kernel_rfl):Aj P F c st Q:=Aj.less (Ch.t hl) h
theorem Ow (i:AC) (j:Nat) (k:AC) (E n:Nat) (st':St) (hh:Aj P F c st' Q) (h:jS st i j k E n=some st':=by kernel_rfl):Aj P F c st Q:=Aj.own i j k E n st' h hh
theorem bE {rs:List ResultVar} {e:Exit} {r':V} (v r:V) (hr:r=r') (he:e= .normal ∨e= .ret :=by first | exact .inr rfl | exact .inl rfl) (h:Yw P st rs=some v:=by kernel_rfl) (hs:qd st rs v=r:=by kernel_rfl) (hp:r.pure=true:=by kernel_rfl):
 (e= .normal ∨e= .ret)∧(C0 P st rs).1∧(C0 P st rs).2.pure =true∧(C0 P st rs).2=r':=mO he h hs hp hr
theorem bQ {rs:List ResultVar} {e:Exit} {r':V} (v:V) (hr:v=r') (he:e= .normal ∨e= .ret :=by first | exact .inr rfl | exact .inl rfl) (h:Yw P st rs=some v:=by kernel_rfl) (hs:qd st rs v=v:=by kernel_rfl) (hp:v.pure=true:=by kernel_rfl):
 (e= .normal ∨e= .ret)∧(C0 P st rs).1∧(C0 P st rs).2.pure =true∧(C0 P st rs).2=r':=mO he h hs hp hr
end
theorem Tn {K:St→Prop} {Q:Exit→St→Prop} {st:St} (h:K st):BM K Q .normal st:=h
theorem Tr {K:St→Prop} {Q:Exit→St→Prop} {st:St} (h:Q .ret st):BM K Q .ret st:=h
theorem gi (g:Bool):g=true→g=true:=id
theorem g1 (g:Bool):g=true→Bb [g=true→g=true]:=fun _=>⟨id,trivial⟩
theorem g2 (g:Bool):g=true→Bb [g=true→g=true,g=true→g=true]:=fun _=>⟨id,id,trivial⟩
section
variable {l:List Prop}
theorem aB {e b:Bool} (h:some e=some b) (k:Bb l):Bb ((vB e=vB b)::l):=⟨congrArg vB (sI h),k⟩
theorem aT (b:Bool) (k:Bb l):Bb ((b=true→(b==true)=true)::l):=⟨fun q=>gT q,k⟩
theorem aF (b:Bool) (k:Bb l):Bb ((b=false→(b==false)=true)::l):=⟨fun q=>gF q,k⟩
theorem aG (g:Bool) (k:Bb l):Bb ((g=true→Bb [g=true→g=true])::l):=⟨g1 g,k⟩
theorem aH (g:Bool) (k:Bb l):Bb ((g=true→Bb [g=true→g=true,g=true→g=true])::l):=⟨g2 g,k⟩
end
section
variable {α:Type} [Inhabited α] {g:Bool} {o:Option α} {x:α} {p:Prop}
theorem c0 (h:gd g o=some x) (k:o=some x→p):g=true→Bb []∧p:=fun hg=>⟨trivial,k (U0 h hg)⟩
theorem c1 (h:gd g o=some x) (k:o=some x→p):g=true→Bb [g=true→g=true]∧p:=fun hg=>⟨⟨id,trivial⟩,k (U0 h hg)⟩
theorem c2 (h:gd g o=some x) (k:o=some x→p):g=true→Bb [g=true→g=true,g=true→g=true]∧p:=fun hg=>⟨⟨id,id,trivial⟩,k (U0 h hg)⟩
theorem c3 (h:gd g o=some x) (k:o=some x→p):g=true→Bb [g=true→g=true,g=true→g=true,g=true→g=true]∧p:=fun hg=>⟨⟨id,id,id,trivial⟩,k (U0 h hg)⟩
end
theorem U2 (k:IntKind): ∀ x,(eI k x).length =1:=fun _=>rfl
theorem lenB': ∀ x,(eB x).length =1:=fun _=>rfl
theorem cg: ∀ x,(eS x).length =1:=fun _=>rfl
theorem xz {α:Type} (e:α→List C): ∀ x,(eL e x).length =1:=fun _=>rfl
section
variable {α:Type} [Inhabited α] {l m r:List α} {i:Int} {x:α} {e:α→List C} {N:Nat}
theorem Pa (hx:idx l i=some x) (hN: ∀ y,(e y).length =N) (o n:Nat) (ag:Bool) (v:V) (hv:toV ag o n (e x)=v:=by kernel_rfl) (ho:Nat.ble (o+n) N=true:=by kernel_rfl) (h0:(ag||Nat.blt 0 n)=true:=by kernel_rfl):
 i.toNat*N+o+n≤(l.flatMap e).length ∧toV ag (i.toNat*N+o) n (l.flatMap e)=v:=
 b0 hx hN rfl (Nat.le_of_ble_eq_true ho) (by simpa using h0) hv
omit [Inhabited α] in
theorem ZT {b:Nat} (h:app b l m=some r) (e:α→List C):l.length+m.length=r.length∧l.flatMap e++m.flatMap e=r.flatMap e:=⟨by rw [Wp h,List.length_append],by rw [Wp h,List.flatMap_append]⟩
end
end Go.PL
namespace Go.PL
open Go Go.RowKit
def vF (st:St) (e:AY):St:={st with so:=Zr e (st.so.filter (fun x=>x.id != e.id&& !(Fs e.id&&Lo x.id)))}
theorem P9 {id:AC} {v:V} (h:v.men id=false):Gc id v=v:=by unfold Gc;rw [if_neg (by simp [h])]
theorem Se {id:AC}: ∀ {l:List V},(∀ v∈l,v.men id=false)→l.map (Gc id)=l
 | [],_=>rfl
 | v::l,h=>by rw [List.map_cons,P9 (h v (by simp)),Se (fun x hx=>h x (by simp [hx]))]
theorem fx {id:AC}: ∀ {l:List C},Cw id l=false→l.map (Gb id)=l
 | [],_=>rfl
 | c::l,h=>by
   simp only [Cw,Bool.or_eq_false_iff]at h
   rw [List.map_cons,fx h.2,Gb,if_neg (by simp [h.1])]
def AY.fre (id:AC) (e:AY):Bool:=e.pu|| !Cw id e.cs
theorem AY.kill_eq {id:AC} {e:AY} (h:e.fre id=true):e.kill id=e:=by
 obtain⟨i,r,cs,pu⟩:=e
 cases pu
 ·simp only [AY.fre,Bool.false_or,Bool.not_eq_true']at h
  simp only [AY.kill,fx h]
 ·rfl
theorem vG {st:St} {e:AY} (h1: ∀ v∈st.tm,v.men e.id=false) (h2: ∀ x∈st.so,x.id=e.id∨x.fre e.id=true) (h3: ∀ v∈st.gh,v.men e.id=false) (h4:e.fre e.id=true):st.new e=vF st e:=by
 have a:(st.so.filter (fun x=>x.id != e.id&& !(Fs e.id&&Lo x.id))).map (AY.kill e.id)=st.so.filter (fun x=>x.id != e.id&& !(Fs e.id&&Lo x.id)):=by
  have: ∀ l:List AY,(∀ x∈l,x.id=e.id∨x.fre e.id=true)→(l.filter (fun x=>x.id != e.id&& !(Fs e.id&&Lo x.id))).map (AY.kill e.id)=l.filter (fun x=>x.id != e.id&& !(Fs e.id&&Lo x.id)):=by
   intro l
   induction l with
   | nil=>intro _;rfl
   | cons x l ih=>
     intro hl
     simp only [List.filter_cons]
     split
     ·rename_i hx
      rw [List.map_cons,ih (fun y hy=>hl y (by simp [hy]))]
      rcases hl x (by simp)with q | q
      ·simp [q]at hx
      ·rw [AY.kill_eq q]
     ·exact ih (fun y hy=>hl y (by simp [hy]))
  exact this _ h2
 unfold St.new vF St.kill
 simp only [a,Se h1,Se h3,AY.kill_eq h4]
def uH (P:Program) (st:St) (s:Stp) (o:Oper):Option (List Prop×AY×V):=
 match o.guard,o.dst,s with
 | none,some d, .a =>match o.op with
   | .alloc T=>match TS P T with
     | some cs=>some ([],⟨d::st.pre,none,cs,false⟩, .c (.ptr (d::st.pre) 0))
     | none=>none
   | .box _ x=>match (Bc st true x).2.cells with
     | some cs=>some ((Bc st true x).1,⟨d::st.pre,none,cs,false⟩, .c (.ptr (d::st.pre) 0))
     | none=>none
   | .assign (.const (.slice none 0 0))=>match Em P o.type with
     | some (E,n)=>some ([],⟨d::st.pre,some (E,n,0),[],true⟩, .c (.osl (d::st.pre)))
     | none=>none
   | .buildSlice t len ps=>match EC P t with
     | some (E,n,_)=>match LV P E with
       | some z=>match Hz (fun i=>some (i*n,n)) (Cg z len) ((HD st true ps.toList).2.map TT)with
         | some cs=>match z.length==n&&Nat.blt 0 n&&Nat.ble (len*n) (2 ^ 24)&&AJ cs with
           | true=>some ((HD st true ps.toList).1++[],⟨d::st.pre,some (E,n,len),cs,true⟩, .c (.osl (d::st.pre)))
           | false=>none
         | none=>none
       | none=>none
     | none=>none
   | _=>none
 | none,some d, .e len cs=>match o.op with
   | .makeSlice t l c=>match (Bc st true l).2,(Bc st true c).2,EC P t with
     | .c (.int _ l'), .c (.int _ c'),some (E,n,by')=>match LV P E with
       | some z=>match z.length==n&&Nat.blt 0 n with
         | true=>some (((Bc st true l).1++(Bc st true c).1)++([l'.toNat=len∧Cg z l'.toNat=cs]++[0≤l'∧l'≤c'∧c'*by'≤140737488355328∧c'≤maxLen]),⟨d::st.pre,some (E,n,len),cs,true⟩, .c (.osl (d::st.pre)))
         | false=>none
       | none=>none
     | _,_,_=>none
   | _=>none
 | _,_,_=>none
theorem fy {P:Program} {I:World→Prop} {st:St} {s:Stp} {ops:Array Oper} {o:Oper} {l:List Prop} {e:AY} {v:V} (h:uH P st s o=some (l,e,v)):
 IG P I false ops o s st=some (l,(st.new e).put o.dst v):=by
 obtain⟨dst,op,ty,pos,aft,gd⟩:=o
 unfold uH at h
 split at h
 ·rename_i d h1 h2
  simp only at h1 h2
  subst h1 h2
  split at h
  ·rename_i T hT
   simp only at hT;subst hT
   split at h
   ·rename_i cs hz
    simp only [Option.some.injEq,Prod.mk.injEq]at h
    obtain⟨rfl,rfl,rfl⟩:=h
    simp only [IG,HE,Ca,p5,hz]
   ·cases h
  ·rename_i T x hT
   simp only at hT;subst hT
   split at h
   ·rename_i cs hz
    simp only [Option.some.injEq,Prod.mk.injEq]at h
    obtain⟨rfl,rfl,rfl⟩:=h
    simp only [IG,HE,Ca,p5,hz]
   ·cases h
  ·rename_i hT
   simp only at hT;subst hT
   split at h
   ·rename_i E n hz
    simp only [Option.some.injEq,Prod.mk.injEq]at h
    obtain⟨rfl,rfl,rfl⟩:=h
    simp only [IG,HE,Ca,p5,hz]
   ·cases h
  ·rename_i t len ps hT
   simp only at hT;subst hT
   split at h
   ·rename_i E n b h1
    split at h
    ·rename_i z h2
     split at h
     ·rename_i cs h3
      split at h
      ·rename_i hb
       simp only [Option.some.injEq,Prod.mk.injEq]at h
       obtain⟨rfl,rfl,rfl⟩:=h
       simp only [IG,HE,Ca,p5,td,h1,h2,h3,hb,jM]
      ·cases h
     ·cases h
    ·cases h
   ·cases h
  ·cases h
 ·rename_i d len cs h1 h2
  simp only at h1 h2
  subst h1 h2
  split at h
  ·rename_i t l c hT
   simp only at hT;subst hT
   split at h
   ·rename_i E n b h1 h2 h3
    split at h
    ·rename_i z h4
     split at h
     ·rename_i hb
      simp only [Option.some.injEq,Prod.mk.injEq]at h
      obtain⟨rfl,rfl,rfl⟩:=h
      simp only [IG,HE,Ca,p5,mN,h1,h2,h3,h4,hb,jM]
     ·cases h
    ·cases h
   ·cases h
  ·cases h
 ·cases h
theorem qj {P:Program} {st:St} {s:Stp} {o:Oper} {r:List Prop×AY×V} (h:uH P st s o=some r): ∀ x,s ≠ .D x:=by
 intro x hx
 subst hx
 unfold uH at h
 split at h
 ·rename_i q;cases q
 ·rename_i q;cases q
 ·cases h
theorem mW {P:Program} {I:World→Prop} {dr:Bool} {ops:Array Oper} {o:Oper} {s:Stp} {st:St} (h: ∀ x,s ≠ .D x):IG P I dr ops o s st=HE P I dr ops o s st:=by
 cases s<;>first | rfl | exact absurd rfl (h _)
theorem vH {P:Program} {st:St} {s:Stp} {o:Oper} {l:List Prop} {e:AY} {v:V} (h:uH P st s {o with guard:=none}=some (l,e,v)):
 Ca o.op= .ef ∧p5 P st s o=some (l,(st.new e).put o.dst v):=by
 have hs:=fy (I:=fun _=>True) (ops:= #[]) h
 obtain⟨dst,op,ty,pos,aft,gd⟩:=o
 have hk:Ca op= .ef :=by
  unfold uH at h
  split at h
  ·split at h
   all_goals first
    | (rename_i hT;simp only at hT;subst hT;rfl)
    | (cases h;done)
  ·split at h
   all_goals first
    | (rename_i hT;simp only at hT;subst hT;rfl)
    | (cases h;done)
  ·cases h
 refine⟨hk,?_⟩
 rw [mW (qj h)]at hs
 unfold HE at hs
 simp only [hk]at hs
 exact hs
def yV (P:Program) (st:St) (s:Stp) (ops:Array Oper) (o:Oper):Option (List Prop×AY×V):=
 match o.guard with
 | none=>uH P st s o
 | some (j,want)=>match uH P st s {o with guard:=none}with
   | some (l,e,v)=>match GY st ops j want with
     | some g=>some (l++[g=true],e,v)
     | none=>none
   | none=>none
theorem qm {P:Program} {I:World→Prop} {st:St} {s:Stp} {ops:Array Oper} {o:Oper} {l:List Prop} {e:AY} {v:V} (h:yV P st s ops o=some (l,e,v)):
 IG P I false ops o s st=some (l,(st.new e).put o.dst v):=by
 unfold yV at h
 split at h
 ·exact fy h
 ·rename_i j want hg
  split at h
  ·rename_i l1 e1 v1 h1
   split at h
   ·rename_i g hq
    simp only [Option.some.injEq,Prod.mk.injEq]at h
    obtain⟨rfl,rfl,rfl⟩:=h
    obtain⟨hk,he⟩:=vH h1
    rw [mW (qj h1)]
    unfold HE
    simp only [hg,hq,hk,he]
   ·cases h
  ·cases h
structure RD where
 tm:List (List (Nat×V)×V)
 so:List (List (Nat×AY)×Option AY)
 gh:List V
 pre:AC
def tl (f:Nat→Bool):List (Nat×V)→V→V
 | [],u=>u
 | (i,v)::ws,u=>tl f ws (cond (f i) v u)
def tn (f:Nat→Bool):List (Nat×AY)→Option AY→Option AY
 | [],u=>u
 | (i,v)::ws,u=>tn f ws (cond (f i) (some v) u)
def RD.st (d:RD) (f:Nat→Bool):St:=⟨d.tm.map (fun x=>tl f x.1 x.2),d.so.filterMap (fun x=>tn f x.1 x.2),d.gh,d.pre⟩
theorem fA {id:AC} {f:Nat→Bool} {dead:Nat→Bool} (hd: ∀ j,dead j=true→f j=false): ∀ {ws:List (Nat×V)} {u:V},(ws.all fun y=>dead y.1|| !y.2.men id)=true→u.men id=false→(tl f ws u).men id=false
 | [],u,_,h=>h
 | (i,v)::ws,u,h,hu=>by
   simp only [List.all_cons,Bool.and_eq_true,Bool.or_eq_true,Bool.not_eq_true']at h
   show (tl f ws (cond (f i) v u)).men id=false
   refine fA (ws:=ws) hd h.2 ?_
   cases hf:f i
   ·exact hu
   ·rcases h.1 with q | q
    ·rw [hd i q]at hf;cases hf
    ·exact q
theorem fB {id:AC} {f:Nat→Bool} {dead:Nat→Bool} (hd: ∀ j,dead j=true→f j=false): ∀ {ws:List (Nat×AY)} {u:Option AY},(ws.all fun y=>dead y.1||(y.2.id==id||y.2.fre id))=true→(∀ e,u=some e→e.id=id∨e.fre id=true)→ ∀ e,tn f ws u=some e→e.id=id∨e.fre id=true
 | [],u,_,h=>h
 | (i,v)::ws,u,h,hu=>by
   simp only [List.all_cons,Bool.and_eq_true,Bool.or_eq_true,beq_iff_eq]at h
   show ∀ e,tn f ws (cond (f i) (some v) u)=some e→_
   refine fB (ws:=ws) hd h.2 ?_
   intro e he
   cases hf:f i
   ·rw [hf]at he;exact hu e he
   ·rw [hf]at he
    simp only [cond_true,Option.some.injEq]at he
    subst he
    rcases h.1 with q | q
    ·rw [hd i q]at hf;cases hf
    ·exact q
def qp (id:AC):Option AY→Bool
 | some e=>e.id==id||e.fre id
 | none=>true
def RD.free (d:RD) (id:AC) (dead:Nat→Bool):Bool:=
 d.tm.all (fun x=>x.1.all (fun y=>dead y.1|| !y.2.men id)&& !x.2.men id)&&
 (d.so.all (fun x=>x.1.all (fun y=>dead y.1||(y.2.id==id||y.2.fre id))&&qp id x.2)&&d.gh.all (fun v=> !v.men id))
theorem RD.free_spec {d:RD} {id:AC} {dead f:Nat→Bool} (hd: ∀ j,dead j=true→f j=false) (h:d.free id dead=true):
 (∀ v∈(d.st f).tm,v.men id=false)∧(∀ x∈(d.st f).so,x.id=id∨x.fre id=true)∧(∀ v∈(d.st f).gh,v.men id=false):=by
 simp only [RD.free,Bool.and_eq_true,List.all_eq_true]at h
 refine⟨fun v hv=>?_,fun x hx=>?_,fun v hv=>?_⟩
 ·simp only [RD.st,List.mem_map]at hv
  obtain⟨y,h1,rfl⟩:=hv
  have:=h.1 y h1
  simp only [Bool.and_eq_true,Bool.not_eq_true']at this
  exact fA hd (List.all_eq_true.2 this.1) this.2
 ·simp only [RD.st,List.mem_filterMap]at hx
  obtain⟨y,h1,h2⟩:=hx
  have:=h.2.1 y h1
  refine fB hd (List.all_eq_true.2 this.1) (fun e he=>?_) x h2
  have:=this.2
  rw [he]at this
  simpa [qp] using this
 ·have:=h.2.2 v hv
  simpa using this
def qq (P:Program) (I:World→Prop) (ops:Array Oper) (ss:List Stp) (ids:List AC) (d:RD) (dead f:Nat→Bool) (i:Nat):Option (List Prop×St):=
 match ops[i]?,ss[i]? with
 | some o,some s=>match yV P (d.st f) s ops o with
   | some (l,e,v)=>match d.free e.id dead&&e.fre e.id with
     | true=>some (l,jQ ids ((vF (d.st f) e).put o.dst v))
     | false=>none
   | none=>match IG P I false ops o s (d.st f)with
     | some (c,st')=>some (c,jQ ids st')
     | none=>none
 | _,_=>none
theorem jU {P:Program} {I:World→Prop} {ops:Array Oper} {ss:List Stp} {ids:List AC} {d:RD} {dead f:Nat→Bool} {i:Nat} {r:List Prop×St} (hd: ∀ j,dead j=true→f j=false) (h:qq P I ops ss ids d dead f i=some r):
 fi P I ops ss ids (d.st f) i=some r:=by
 unfold qq at h
 unfold fi
 split at h
 ·rename_i o s h1 h2
  try simp only [h1,h2]
  split at h
  ·rename_i l e v h3
   split at h
   ·rename_i hb
    simp only [Bool.and_eq_true]at hb
    obtain⟨a,b,c⟩:=RD.free_spec (f:=f) hd hb.1
    rw [qm h3,vG a b c hb.2]
    exact h
   ·cases h
  ·exact h
 ·cases h
def JI:List Nat→Nat→Bool
 | [],_=>false
 | x::l,j=>cond (Nat.beq x j) true (JI l j)
theorem HH: ∀ {l:List Nat} {j:Nat},JI l j=true↔j∈l
 | [],j=>by simp [JI]
 | x::l,j=>by
   simp only [JI,List.mem_cons]
   cases h:Nat.beq x j
   ·simp only [cond_false,HH (l:=l)]
    have:x ≠ j:=fun e=>by subst e;simp at h
    exact⟨.inr,fun q=>q.resolve_left (fun e=>this e.symm)⟩
   ·simp only [cond_true,true_iff]
    exact .inl (Nat.eq_of_beq_eq_true h).symm
def uI:List Nat→List Bool→Nat→Option Bool
 | e::es,b::bs,j=>cond (Nat.beq e j) (some b) (uI es bs j)
 | _,_,_=>none
theorem VD (f:Nat→Bool): ∀ (E:List Nat) (j:Nat),uI E (E.map f) j=if j∈E then some (f j)else none
 | [],j=>rfl
 | e::E,j=>by
   simp only [List.map_cons,uI,VD f E j,List.mem_cons]
   cases h:Nat.beq e j
   ·have:j ≠ e:=fun q=>by subst q;simp at h
    simp [this]
   ·have:=Nat.eq_of_beq_eq_true h
    subst this
    simp
def yk (pr:List (List Nat)) (E:List Nat) (mb:List Bool) (i:Nat) (b:Nat→Bool):Nat→Bool:=fun j=>
 cond (Nat.beq j i) false (cond (JI (pr.getD j []) i) false (match uI E mb j with
  | some x=>x
  | none=>cond (JI (pr.getD i []) j) true (b j)))
def tp (f:Nat→Bool) (i:Nat):Nat→Bool:=fun j=>cond (Nat.beq j i) true (f j)
def qr (pr:List (List Nat)) (i:Nat):Nat→Bool:=fun j=>cond (Nat.beq j i) true (JI (pr.getD j []) i)
def ot (pr:List (List Nat)) (E:List Nat) (mb:List Bool) (N:Nat):List Nat:=
 (List.range N).filter fun i=>(match uI E mb i with
  | some true=>false
  | _=>true)&&(pr.getD i []).all fun j=>match uI E mb j with
    | some false=>false
    | _=>true
def jV (ops:Array Oper) (i:Nat):List Nat:=match ops[i]? with
 | some o=>(o.after.toList.filter (Region.binds .any)).map (·.on)
 | none=>[]
def qt (ops:Array Oper) (pr:List (List Nat)):Bool:=
 (List.range ops.size).all fun i=>(jV ops i).all (fun j=>Nat.blt j i&&JI (pr.getD i []) j)&&(pr.getD i []).all fun j=>JI (jV ops i) j||(jV ops i).any fun k=>JI (pr.getD k []) j
def tq (pr:List (List Nat)) (E:List Nat) (ms:List (List Bool)) (N:Nat):Bool:=
 ms.contains (E.map fun _=>false)&&ms.all fun mb=>(ot pr E mb N).all fun i=>ms.contains (E.map fun j=>cond (Nat.beq j i) true ((uI E mb j).getD false))
def xA (P:Program) (I:World→Prop) (ops:Array Oper) (ss:List Stp) (ids:List AC) (d:RD) (pr:List (List Nat)) (E:List Nat) (ms:List (List Bool)) (b:Nat→Bool):List (Option (List Prop×St)):=
 ms.flatMap fun mb=>(ot pr E mb ops.size).map fun i=>qq P I ops ss ids d (qr pr i) (yk pr E mb i b) i
def uJ (ops:Array Oper) (cs:List (List Prop)) (d:RD) (pr:List (List Nat)) (E:List Nat) (ms:List (List Bool)) (b:Nat→Bool):List (Option (List Prop×St)):=
 ms.flatMap fun mb=>(ot pr E mb ops.size).map fun i=>some (cs.getD i [],d.st (tp (yk pr E mb i b) i))
def bv (v:List Bool):Nat→Bool:=fun j=>v.getD j false
theorem fC {α β:Type} {f g:α→Nat→β} {r:α→List Nat}: ∀ {l:List α},(l.flatMap fun n=>(r n).map (f n))=(l.flatMap fun n=>(r n).map (g n))→ ∀ n∈l, ∀ i∈r n,f n i=g n i
 | [],_,n,hn,_,_=>by simp at hn
 | a::l,h,n,hn,i,hi=>by
   simp only [List.flatMap_cons]at h
   have hh:=List.append_inj h (by simp)
   rcases List.mem_cons.1 hn with rfl | hn
   ·exact List.map_inj_left.1 hh.1 i hi
   ·exact fC hh.2 n hn i hi
section
variable {P:Program} {F:Fr} {ops:Array Oper}
theorem ZU {v:List Bool} {i:Nat} (hv:v.length=ops.size) (h:i∈Region.ready .any ops v.toArray):i<ops.size∧bv v i=false∧ ∀ j∈jV ops i,bv v j=true:=by
 unfold Region.ready at h
 simp only [List.mem_filter,List.mem_range,Bool.and_eq_true,Bool.not_eq_true']at h
 obtain⟨h1,h2,h3⟩:=h
 refine⟨h1,?_,fun j hj=>?_⟩
 ·have:i<v.length:=by omega
  simp [Array.getD_eq_getD_getElem?,this]at h2
  simp [bv,List.getD_eq_getElem?_getD,this,h2]
 ·unfold jV at hj
  have ho:ops[i]? =some ops[i]:=Array.getElem?_eq_getElem h1
  rw [ho]at hj h3
  simp only [List.mem_map,List.mem_filter]at hj
  obtain⟨e,⟨he,hb⟩,rfl⟩:=hj
  simp only [Option.map_some,Option.getD_some,Array.all_eq_true_iff_forall_mem]at h3
  have:=h3 e (by simpa using he)
  simp only [hb,Bool.not_true,Bool.false_or]at this
  simp only [bv,List.getD_eq_getElem?_getD]
  simpa [Array.getD_eq_getD_getElem?] using this
theorem qu {v:List Bool} {pr:List (List Nat)} (hv:v.length=ops.size) (hp:qt ops pr=true) (h:Region.ready .any ops v.toArray=[]): ∀ i,i<ops.size→bv v i=true:=by
 intro i
 induction i using Nat.strongRecOn with
 | ind i ih=>
   intro hi
   cases hb:bv v i
   ·exfalso
    have:i∈Region.ready .any ops v.toArray:=by
     unfold Region.ready
     simp only [List.mem_filter,List.mem_range,Bool.and_eq_true,Bool.not_eq_true']
     refine⟨hi,?_,?_⟩
     ·have:i<v.length:=by omega
      simp only [bv,List.getD_eq_getElem?_getD,List.getElem?_eq_getElem this,Option.getD_some]at hb
      simp [Array.getD_eq_getD_getElem?,this,hb]
     ·have ho:ops[i]? =some ops[i]:=Array.getElem?_eq_getElem hi
      rw [ho]
      simp only [Option.map_some,Option.getD_some,Array.all_eq_true_iff_forall_mem]
      intro e he
      cases hbd:Region.binds .any e
      ·rfl
      ·have hd:e.on∈jV ops i:=by
        unfold jV;rw [ho]
        simp only [List.mem_map,List.mem_filter]
        exact⟨e,⟨by simpa using he,hbd⟩,rfl⟩
       simp only [qt,List.all_eq_true,List.mem_range,Bool.and_eq_true]at hp
       have hlt:=((hp i hi).1 _ hd).1
       simp only [Nat.blt_eq]at hlt
       have:=ih _ hlt (by omega)
       simp only [bv,List.getD_eq_getElem?_getD]at this
       simp only [Bool.not_true,Bool.false_or]
       simpa [Array.getD_eq_getD_getElem?] using this
    rw [h]at this;cases this
   ·rfl
theorem yW {pr:List (List Nat)} {E:List Nat} {ms:List (List Bool)} {ss:List Stp} {ids:List AC} {cs:List (List Prop)} {d:RD} {Q:Exit→St→Prop} (hids:ids.Nodup) (hp:qt ops pr=true) (hm:tq pr E ms ops.size=true)
 (hst: ∀ b,xA P F.I ops ss ids d pr E ms b=uJ ops cs d pr E ms b) (hc:P7 cs) (hQ:Q .normal (d.st fun j=>Nat.blt j ops.size)):
 ∀ (fuel:Nat) (v:List Bool) (a:Act) (w:World) (G:Bp),v.length=ops.size→E.map (bv v)∈ms→(∀ i,bv v i=true→ ∀ j∈pr.getD i [],bv v j=true)→qf v≤fuel→R F (d.st (bv v)) a w G→
   wpAny P .any ops (fun e a' w'=> ∃ st' G',Q e st'∧R F st' a' w' G') fuel v.toArray a w:=by
 have fin: ∀ (v:List Bool) a w G,v.length=ops.size→Region.ready .any ops v.toArray=[]→R F (d.st (bv v)) a w G→ ∃ st' G',Q .normal st'∧R F st' a w G':=by
  intro v a w G hv hr hR
  have e:bv v=fun j=>Nat.blt j ops.size:=by
   funext j
   by_cases hj:j<ops.size
   ·rw [qu hv hp hr j hj];exact(by simpa using hj:Nat.blt j ops.size=true).symm
   ·have h1:bv v j=false:=by simp [bv,List.getD_eq_getElem?_getD,List.getElem?_eq_none (show v.length≤j by omega)]
    rw [h1]
    cases hb:Nat.blt j ops.size
    ·rfl
    ·simp at hb;omega
  rw [e]at hR
  exact⟨_,G,hQ,hR⟩
 intro fuel
 induction fuel with
 | zero=>
   intro v a w G hv hE hcl hu hR
   have hz:=fj _ (Nat.le_zero.1 hu)
   have hr:Region.ready .any ops v.toArray=[]:=by
    rcases hrr:Region.ready .any ops v.toArray with _ | ⟨i,r⟩
    ·rfl
    ·have:=ZU hv (i:=i) (by rw [hrr];simp)
     rw [List.all_eq_true]at hz
     have hlt:i<v.length:=by omega
     have h2:=hz v[i] (List.getElem_mem hlt)
     have h3:=this.2.1
     simp only [bv,List.getD_eq_getElem?_getD,List.getElem?_eq_getElem hlt,Option.getD_some]at h3
     rw [h3]at h2;cases h2
   exact⟨hr,fin v a w G hv hr hR⟩
 | succ fuel ih=>
   intro v a w G hv hE hcl hu hR
   refine⟨fun hr=>fin v a w G hv hr hR,fun i hi=>?_⟩
   obtain⟨hlt,hf,hdir⟩:=ZU hv hi
   have hp':=hp
   simp only [qt,List.all_eq_true,List.mem_range,Bool.and_eq_true,Bool.or_eq_true,List.any_eq_true,HH]at hp'
   have hpre: ∀ j∈pr.getD i [],bv v j=true:=by
    intro j hj
    rcases (hp' i hlt).2 j hj with q | ⟨k,hk,q⟩
    ·exact hdir j q
    ·exact hcl k (hdir k hk) j q
   have hsuc: ∀ j,i∈pr.getD j []→bv v j=false:=by
    intro j hj
    cases hb:bv v j
    ·rfl
    ·have:=hcl j hb i hj
     rw [hf]at this;cases this
   have hg:yk pr E (E.map (bv v)) i (bv v)=bv v:=by
    funext j
    unfold yk
    cases h1:Nat.beq j i
    ·simp only [cond_false]
     cases h2:JI (pr.getD j []) i
     ·simp only [cond_false,VD]
      split
      ·rename_i x hx
       split at hx
       ·simpa using hx.symm
       ·cases hx
      ·cases h3:JI (pr.getD i []) j
       ·rfl
       ·exact(hpre j (HH.1 h3)).symm
     ·exact(hsuc j (HH.1 h2)).symm
    ·rw [Nat.eq_of_beq_eq_true h1];exact hf.symm
   have hri:i∈ot pr E (E.map (bv v)) ops.size:=by
    simp only [ot,List.mem_filter,List.mem_range,Bool.and_eq_true,List.all_eq_true,VD]
    refine⟨hlt,?_,fun j hj=>?_⟩
    ·split
     ·rename_i hq
      split at hq
      ·simp only [Option.some.injEq]at hq;rw [hf]at hq;cases hq
      ·cases hq
     ·rfl
    ·split
     ·rename_i hq
      split at hq
      ·simp only [Option.some.injEq]at hq;rw [hpre j hj]at hq;cases hq
      ·cases hq
     ·rfl
   have hstep:=fC (r:=fun mb=>ot pr E mb ops.size) (hst (bv v)) _ hE i hri
   rw [hg]at hstep
   have hdead: ∀ j,qr pr i j=true→bv v j=false:=by
    intro j hj
    unfold qr at hj
    cases h1:Nat.beq j i
    ·rw [h1]at hj;exact hsuc j (HH.1 hj)
    ·rw [Nat.eq_of_beq_eq_true h1];exact hf
   have hstep:=jU hdead hstep
   have hset:tp (bv v) i=bv (v.set i true):=by
    funext j
    unfold tp
    cases h1:Nat.beq j i
    ·have:i ≠ j:=fun e=>by subst e;simp at h1
     simp [bv,List.getD_eq_getElem?_getD,List.getElem?_set,this]
    ·have:=Nat.eq_of_beq_eq_true h1
     subst this
     simp [bv,List.getD_eq_getElem?_getD,show j<v.length by omega]
   unfold fi at hstep
   split at hstep
   ·rename_i o s ho hs
    split at hstep
    ·rename_i c st' hss
     simp only [Option.some.injEq,Prod.mk.injEq]at hstep
     obtain⟨hcc,hst'⟩:=hstep
     rw [hset]at hst'
     have hwp:=P6 (K:=fun s'=>Ch s' (d.st (bv (v.set i true)))) hss (hcc▸Sb hc i) (hst'▸Sa ids hids st')
     have hw:=ZO (Q:=fun e a' w'=> ∃ st' G',Q e st'∧R F st' a' w' G') hR hwp
     have hnext: ∀ a' w',nU F (fun s'=>Ch s' (d.st (bv (v.set i true)))) a' w'→wpAny P .any ops (fun e a' w'=> ∃ st' G',Q e st'∧R F st' a' w' G') fuel (v.toArray.setIfInBounds i true) a' w':=by
      intro a' w' ⟨s',G',hl,hR'⟩
      have hsa:v.toArray.setIfInBounds i true=(v.set i true).toArray :=by simp
      rw [hsa]
      refine ih (v.set i true) a' w' G' (by simpa using hv) ?_ ?_ ?_ (hR'.less hl)
      ·simp only [tq,Bool.and_eq_true,List.all_eq_true,List.contains_iff_mem]at hm
       have:=hm.2 _ hE i hri
       have e:(E.map fun j=>cond (Nat.beq j i) true ((uI E (E.map (bv v)) j).getD false))=E.map (bv (v.set i true)):=by
        refine List.map_congr_left (fun j hj=>?_)
        rw [←hset,VD,if_pos hj]
        rfl
       rwa [e]at this
      ·intro k hk j hj
       rw [←hset]at hk ⊢
       unfold tp at hk ⊢
       cases h1:Nat.beq j i
       ·simp only [cond_false]
        cases h2:Nat.beq k i
        ·rw [h2]at hk;exact hcl k hk j hj
        ·rw [Nat.eq_of_beq_eq_true h2]at hj;exact hpre j hj
       ·rfl
      ·have hb:v[i]? =some false:=by
        have hl:i<v.length:=by omega
        simp only [bv,List.getD_eq_getElem?_getD,List.getElem?_eq_getElem hl,Option.getD_some]at hf
        rw [List.getElem?_eq_getElem hl,hf]
       have:=cd _ i hb
       omega
     unfold wpOp
     rw [ho]
     simp only
     by_cases hwt:Region.wanted o (yielded ops a.tmps)=true
     ·rw [if_pos hwt]at hw ⊢
      exact .inl (Oper.wp_mono hnext hw)
     ·rw [if_neg hwt]at hw ⊢
      exact hnext _ _ hw
    ·cases hstep
   ·cases hstep
theorem Aj.regS {st:St} {rid:Nat} {l:List Oper} {Q:Exit→St→Prop} (h1:P.follows .mixedOrders =true) (pr:List (List Nat)) (E:List Nat) (ms:List (List Bool)) (ss:List Stp) (ids:List AC) (d:RD) (cs:List (List Prop)) (hc:P7 cs) (hQ:Q .normal (d.st fun j=>Nat.blt j l.toArray.size))
 (hids:Sd ids=true:=by kernel_rfl) (hp:qt l.toArray pr=true:=by kernel_rfl) (hm:tq pr E ms l.toArray.size=true:=by kernel_rfl) (h0:Ol st (d.st fun _=>false)=some (d.st fun _=>false):=by kernel_rfl)
 (hst: ∀ b,xA P F.I l.toArray ss ids d pr E ms b=uJ l.toArray cs d pr E ms b:=by intro b;kernel_rfl):Aj P F (.region rid l.toArray true) st Q:=by
 intro a w G hR
 refine wp_region_any h1 ?_
 have hR':=(hR.less (Ch.t h0)).same (w':={w with drawn:=w.drawn+1}) ⟨rfl,rfl,rfl⟩ ⟨Nat.le_refl _,fun _ _=>rfl⟩
 have e0:bv (List.replicate l.toArray.size false)=fun _=>false:=by
  funext j
  simp only [bv,List.getD_eq_getElem?_getD,List.getElem?_replicate]
  split<;>rfl
 have key:=yW (P:=P) (ops:=l.toArray) (Q:=Q) (Me hids) hp hm hst hc hQ l.toArray.size (List.replicate l.toArray.size false) a _ G (by simp) (by
  simp only [tq,Bool.and_eq_true,List.contains_iff_mem]at hm
  rw [e0];exact hm.1) (fun i hi=>by rw [e0]at hi;cases hi) (by simp [qf]) (by rw [e0];exact hR')
 simpa using key
end
def mX:Nat→Nat→List (Nat×List (Nat×V)×V)→List (List (Nat×V)×V)
 | 0,_,_=>[]
 | n+1,i,[]=>([], .undef)::mX n (i+1) []
 | n+1,i,(j,ws,v)::l=>match Nat.beq i j with
   | true=>(ws,v)::mX n (i+1) l
   | false=>([], .undef)::mX n (i+1) ((j,ws,v)::l)
theorem bC {l:List Prop} {ls:List (List Prop)} (h:Bb l) (k:P7 ls):P7 (l::ls):=⟨h,k⟩
theorem bN:P7 []:=trivial
end Go.PL
namespace Go.PL
open Go Go.RowKit
def Wk (st st':St):Prop:= ∀ (F:Fr) (a:Act) (w:World) (G:Bp),R F st a w G→ ∃ G',R F st' a w G'
theorem Wk.less {st st':St} (h:Ch st st'):Wk st st':=fun _ _ _ G hR=>⟨G,hR.less h⟩
theorem Wk.trans {a b c:St} (h:Wk a b) (k:Wk b c):Wk a c:=fun F x w G hR=>by
 obtain⟨G',q⟩:=h F x w G hR
 exact k F x w G' q
theorem Wk.frz (st:St) (id:AC):Wk st (st.freeze id):=fun _ _ _ _ hR=>by
 obtain⟨G',q,_⟩:=hR.freeze id
 exact⟨G',q⟩
theorem Wk.frzs: ∀ (ids:List AC) (st:St),Wk st (ids.foldl St.freeze st)
 | [],st=>Wk.less (Ch.refl st)
 | i::l,st=>(Wk.frz st i).trans (Wk.frzs l _)
theorem wT {st st':St} (h:Ol st st'=some st':=by kernel_rfl):Wk st st':=Wk.less (Ch.t h)
theorem wU {st st':St} (hn:Sd st'.ids=true:=by kernel_rfl) (h:Ol (jQ st'.ids st) st'=some st':=by kernel_rfl):Wk st st':=Wk.less (lU hn h)
section
variable {P:Program} {F:Fr} {st:St}
theorem Aj.wk {c:Code} {st':St} {Q:Exit→St→Prop} (h:Wk st st') (hh:Aj P F c st' Q):Aj P F c st Q:=fun a w G hR=>by
 obtain⟨G',q⟩:=h F a w G hR
 exact hh a w G' q
theorem Fz (ids:List AC) (st':St) {c:Code} {Q:Exit→St→Prop} (hh:Aj P F c st' Q) (h:ids.foldl St.freeze st=st':=by kernel_rfl):Aj P F c st Q:=Aj.wk (h▸Wk.frzs ids st) hh
theorem Aj.loopW {X:Type} (S:X→St) (inv:X→Prop) (μ:X→Nat) {c:Code} {Q:Exit→St→Prop} (x0:X) (h0:inv x0) (hl:Wk st (S x0))
 (hb: ∀ x,inv x→Aj P F c (S x) (BM (fun st'=> ∃ y,inv y∧μ y<μ x∧Wk st' (S y)) Q)):Aj P F (.loop c) st Q:=by
 refine Aj.loop (X:=X×St) (fun p=>p.2) (fun p=>inv p.1∧Wk p.2 (S p.1)) (fun p=>μ p.1) (x0,st) ⟨h0,hl⟩ (Ch.refl _) (fun p hp=>?_)
 refine(Aj.wk hp.2 (hb p.1 hp.1)).mono fun e st' q=>?_
 cases e<;>simp only [BM]at q ⊢ <;>try exact q
 obtain⟨y,h1,h2,h3⟩:=q
 exact⟨(y,st'),⟨h1,h3⟩,h2,Ch.refl _⟩
theorem It {σ ρ:Type} {B:σ→Option (σ⊕ρ)} (S:σ→St) {N:Nat} {s0:σ} {o:ρ} {c:Code} {Q:Exit→St→Prop} (hi:PL.iter B N s0=some o) (hl:Wk st (S s0))
 (hb: ∀ s z,B s=some z→(∀ o',z= .inr o'→o'=o)→Aj P F c (S s) (BM (fun st'=> ∃ s',z= .inl s'∧Wk st' (S s')) Q)):Aj P F (.loop c) st Q:=by
 refine Aj.loopW (X:=Nat×σ) (fun x=>S x.2) (fun x=>PL.iter B x.1 x.2=some o) (fun x=>x.1) (N,s0) hi hl ?_
 intro ⟨n,s⟩ hx
 cases n with
 | zero=>simp [PL.iter]at hx
 | succ n=>
   simp only [PL.iter]at hx
   cases hB:B s with
   | none=>rw [hB]at hx;simp at hx
   | some z=>
     rw [hB]at hx
     cases z with
     | inl s'=>
       refine(hb s _ hB (fun o' e=>by cases e)).mono fun e st' q=>?_
       cases e<;>simp only [BM]at q ⊢ <;>try exact q
       obtain⟨s'',e,hl'⟩:=q
       injection e with e;subst e
       exact⟨(n,s'),hx,Nat.lt_succ_self _,hl'⟩
     | inr r=>
       simp only [Option.some.injEq]at hx
       refine(hb s _ hB (fun o' e=>by injection e with e;rw [←e];exact hx)).mono fun e st' q=>?_
       cases e<;>simp only [BM]at q ⊢ <;>try exact q
       obtain⟨s'',e,_⟩:=q
       cases e
theorem Sj {X:Type} (S:X→St) (Φ:X→Prop) {x y:Code} {Q:Exit→St→Prop} (hx:Aj P F x st (BM (fun st'=> ∃ v,Φ v∧Wk st' (S v)) Q)) (hy: ∀ v,Φ v→Aj P F y (S v) Q):Aj P F (.seq x y) st Q:=
 Aj.seq (hx.mono fun e st' q=>by
  cases e<;>simp only [BM]at q ⊢ <;>try exact q
  obtain⟨v,h1,h2⟩:=q
  exact Aj.wk h2 (hy v h1))
end
theorem Sf {α:Type} (e:α→List C) (x:α) {z:List C} (hz:z=e x) (hp:0<z.length): ∀ k,Cg z k=(List.replicate k x).flatMap e:=by
 intro k
 subst hz
 apply List.ext_getElem?
 intro i
 have hlen:((List.replicate k x).flatMap e).length =k*(e x).length :=by
  induction k with
  | zero=>simp
  | succ k ih=>rw [List.replicate_succ,List.flatMap_cons,List.length_append,ih,Nat.succ_mul,Nat.add_comm]
 by_cases hi:i<k*(e x).length
 ·have hm:i % (e x).length <(e x).length :=Nat.mod_lt _ hp
  have key: ∀ k i,i<k*(e x).length →((List.replicate k x).flatMap e)[i]? =(e x)[i % (e x).length]? :=by
   intro k
   induction k with
   | zero=>intro i h;simp at h
   | succ k ih=>
     intro i h
     rw [List.replicate_succ,List.flatMap_cons]
     by_cases hlt:i<(e x).length
     ·rw [List.getElem?_append_left hlt,Nat.mod_eq_of_lt hlt]
     ·rw [List.getElem?_append_right (by omega),ih _ (by rw [Nat.succ_mul]at h;omega), ←Nat.mod_eq_sub_mod (by omega)]
  rw [key k i hi]
  simp only [Cg,List.getElem?_map,List.getElem?_range hi,Option.map_some]
  rw [List.getD_eq_getElem?_getD,List.getElem?_eq_getElem hm]
  rfl
 ·rw [List.getElem?_eq_none (by simp only [Cg,List.length_map,List.length_range];omega),List.getElem?_eq_none (by rw [hlen];omega)]
theorem yl {α:Type} {x:α} {lx:List α} {n:Nat} (h:some (List.replicate n x)=some lx) (e:α→List C) (hp:Nat.blt 0 (e x).length =true:=by kernel_rfl):n=lx.length∧Cg (e x) n=lx.flatMap e:=by
 have:=Option.some.inj h
 subst this
 exact⟨by simp,Sf e x rfl (by simpa using hp) n⟩
theorem ci {α:Type} {s c:List α} {a b:Int} (h:lsub s a b=some c):0≤a∧a≤b∧b≤s.length:=by
 unfold lsub at h;split at h
 ·assumption
 ·cases h
theorem qv {α:Type} {s c:List α} {a b:Int} (h:lsub s a b=some c):c=(s.drop a.toNat).take (b.toNat - a.toNat):=by
 unfold lsub at h;split at h
 ·exact(Option.some.inj h).symm
 ·cases h
theorem ZV {α:Type} {e:α→List C} {N:Nat} (hN: ∀ x,(e x).length =N): ∀ (l:List α) (k:Nat),(l.flatMap e).drop (k*N)=(l.drop k).flatMap e
 | l,0=>by simp
 | [],k+1=>by simp
 | x::l,k+1=>by
   rw [List.flatMap_cons,List.drop_succ_cons, ←ZV hN l k,Nat.succ_mul,Nat.add_comm, ←List.drop_drop]
   congr 1
   rw [←hN x,List.drop_left]
theorem ZW {α:Type} {e:α→List C} {N:Nat} (hN: ∀ x,(e x).length =N): ∀ (l:List α) (k:Nat),(l.flatMap e).take (k*N)=(l.take k).flatMap e
 | l,0=>by simp
 | [],k+1=>by simp
 | x::l,k+1=>by
   rw [List.flatMap_cons,List.take_succ_cons,List.flatMap_cons, ←ZW hN l k,Nat.succ_mul,Nat.add_comm, ←hN x,List.take_length_add_append]
theorem vJ {α:Type} {l r:List α} {a b:Int} {e:α→List C} {N:Nat} (h:lsub l a b=some r) (hN: ∀ x,(e x).length =N):V.c (.sl (b.toNat - a.toNat) (((l.flatMap e).drop (a.toNat*N)).take ((b.toNat - a.toNat)*N)))=vL e r:=by
 have hb:=ci h
 rw [ZV hN,ZW hN, ←qv h]
 have:r.length=b.toNat - a.toNat:=by
  rw [qv h,List.length_take,List.length_drop]
  omega
 unfold vL
 rw [this]
theorem flat_len' {α:Type} {enc:α→List C} {n:Nat} (hn: ∀ x,(enc x).length =n) (l:List α):(l.flatMap enc).length =l.length*n:=Cb hn l
end Go.PL
namespace Go.PL
open Go Go.RowKit
end Go.PL
namespace Go.PL
open Go Go.RowKit
end Go.PL
namespace Go.PL
open Go Go.RowKit
end Go.PL
namespace Go.PL
open Go Go.RowKit
end Go.PL
namespace Go.PL
open Go Go.RowKit
section
variable {P:Program} {F:Fr} {st:St}
def qw (Q:Exit→St→Prop):Exit→St→Prop
 | .goto _,_=>False
 | e,st=>Q e st
theorem Aj.label {l:Nat} {Q:Exit→St→Prop} (h:Q .normal st):Aj P F (.label l) st Q:=fun _ _ G hR=>wp_label ⟨st,G,h,hR⟩
theorem Aj.scope {c:Code} {Q:Exit→St→Prop} (h:Aj P F c st (qw Q)):Aj P F (.scope c) st Q:=
 fun a w G hR=>wp_scope_straight (Code.wp_mono (fun e a' w' ⟨st',G',q,hR'⟩=>by
  cases e<;>simp only [Exit.noGoto,qw]at q ⊢ <;>first
   | exact q.elim
   | exact⟨st',G',q,hR'⟩) (h a w G hR))
end
end Go.PL
namespace Go.PL
open Go Go.RowKit
end Go.PL
namespace Go.PL
open Go Go.RowKit Go.Lib
end Go.PL
namespace Go.PL
open Go Go.RowKit
section
variable {P:Program} {F:Fr} {st:St} {ops:Array Oper}
end
end Go.PL
namespace Go.PL
open Go Go.RowKit
end Go.PL
namespace Go.PL
open Go Go.RowKit Go.MapKept
section
variable {F:Fr} {st:St} {a:Act} {w:World} {G:Bp}
end
section
variable {P:Program} {I:World→Prop} {o:Oper} {st:St} {K:St→Prop}
end
end Go.PL
namespace Go.PL
open Go Go.RowKit
theorem Yp.inlineB {P:Program} {I:World→Prop} {o:Oper} {st:St} {K:St→Prop} {x:Operand} {xs:List Operand} {c:Call} {s:Prop} {vs:List V} {f:FuncId} {cs:List C} {fn:Func} {body:Code} {n:Nat} {rs:List ResultVar} (k:Nat)
 (ho:o.op= .call c) (hcal:c.callee= .value x) (hxs:c.args.toList=xs) (ha:st.args true xs=(s,vs)) (hs:s) (hf:st.ev x= .c (.bmv f cs)) (hent:ent P f=true) (hfn:P.funcs[f]? =some fn) (hb:fn.body=some body) (hn:fn.ntmps=n) (hr:fn.results=rs.toArray)
 (h: ∀ w0 av old gv,Aj P ⟨w0,av,old,I,gv⟩ body (st.enter k (cs.map V.c++vs) n) (pP P rs st.tm.length st.pre o.dst K)):Yp P I o st K:=by
 intro F a w G Q hI hR
 have hargs:AO w G vs (xs.map a.eval):=by
  have:=hR.args (g:=true) rfl (xs:=xs) (by rw [ha];exact hs)
  rw [ha]at this;exact this
 obtain⟨arr,hev,hcs⟩: ∃ arr:Array Value,a.eval x= .func (.func f) arr #[]∧AG w G cs arr.toList:=by
  have hx:=hR.ev x
  rw [hf]at hx
  simpa only [Am,As] using hx
 have hrun:(execOp a.eval o).run P w= .ok (.enter f (arr++(xs.map a.eval).toArray)) w:=by
  have e:c.args.map a.eval=(xs.map a.eval).toArray :=by apply Array.ext';simp [←hxs]
  simp [execOp,ho,resolve,hcal,hev,Deferred.ofValue,invoke,run_callFunc' hent,e]
 unfold Oper.wp Oper.upon
 rw [hrun]
 simp only
 obtain⟨w0,av,old,I',gv⟩:=F
 simp only at hI;subst hI
 have hall:AO w G (cs.map V.c++vs) (arr++(xs.map a.eval).toArray).toList :=by
  simpa using GZ (R3 hcs) hargs
 refine calls_of_wp hfn hb ?_
 have hR0:=hR.enter k hall fn.ntmps
 rw [hn]at hR0
 rw [hn]
 refine Code.wp_mono (fun e a' w' ⟨st',G',q,hR'⟩=>?_) (h _ _ _ _ _ _ _ hR0)
 have hrs:fn.results.toList=rs:=by rw [hr]
 have fin:(Cz P st' rs).1∧K (st'.back st.tm.length st.pre o.dst (Cz P st' rs).2)→
  a'.defers=[]∧ ∃ v,(results fn a'.tmps).run P w'= .ok v w'∧nU ⟨w0,av,old,I',gv⟩ K (a.put o.dst v) w':=by
  intro ⟨q1,q2⟩
  rw [←hrs]at q1 q2
  obtain⟨v,k1,k2⟩:=P0 hR' (fn:=fn) q1
  refine⟨hR'.dfr,v,k1,_,G',q2,?_⟩
  exact(R.back hR.dfr rfl hR' hR.size.symm st.pre).put k2
 cases e<;>simp only [pP]at q<;>first | exact fin q | exact q.elim
end Go.PL
namespace Go.PL
open Go Go.RowKit
def ym:List V→Nat→List Nat→List V
 | [],_,_=>[]
 | v::vs,_,[]=>v::vs
 | v::vs,i,j::l=>match Nat.beq i j with
   | true=> .undef ::ym vs (i+1) l
   | false=>v::ym vs (i+1) (j::l)
def yn:List V→Nat→List (Nat×V)→List V
 | [],_,_=>[]
 | v::vs,_,[]=>v::vs
 | v::vs,i,(j,x)::l=>match Nat.beq i j with
   | true=>x::yn vs (i+1) l
   | false=>v::yn vs (i+1) ((j,x)::l)
inductive Dn where
 | k (n:Nat)
 | s (n:Nat) (l:List (Nat×C))
 | e (x:AY)
def yX:List C→Nat→List (Nat×C)→List C
 | [],_,_=>[]
 | v::vs,_,[]=>v::vs
 | v::vs,i,(j,x)::l=>match Nat.beq i j with
   | true=>x::yX vs (i+1) l
   | false=>v::yX vs (i+1) ((j,x)::l)
def vK:List AY→Nat→AY
 | [],_=>⟨[],none,[],false⟩
 | e::_,0=>e
 | _::l,n+1=>vK l n
def yo (old:List AY):List Dn→List AY
 | []=>[]
 | .k n::l=>vK old n::yo old l
 | .s n c::l=>(match vK old n with | ⟨i,r,cs,p⟩=>⟨i,r,yX cs 0 c,p⟩)::yo old l
 | .e x::l=>x::yo old l
def u (d:List Nat) (l:List (Nat×V)) (st:St):St:=⟨yn (ym st.tm 0 d) 0 l,st.so,st.gh,st.pre⟩
def uo (d:List Nat) (l:List (Nat×V)) (o:List Dn) (st:St):St:=⟨yn (ym st.tm 0 d) 0 l,yo st.so o,st.gh,st.pre⟩
def nA:Nat→List Stp
 | 0=>[]
 | n+1=> .a ::nA n
section
variable {P:Program} {F:Fr} {st:St} {id:Nat} {l:List Oper} {c:Code} {Q:Exit→St→Prop} {cs:List Prop} {K:St→Prop}
theorem Gg (ss:List Stp) (f:St→St) (hl:Bb cs) (h:Aj P F c (f st) Q) (hr:fk (HF P F.I false l.toArray l ss st) (f st)=some (cs,f st):=by kernel_rfl):Aj P F (.seq (.region id l.toArray false) c) st Q:=Aj.rg _ hr hl h
theorem Ge (ss:List Stp) (f:St→St) (hl:Bb cs) (h:Q .normal (f st)) (hr:HF P F.I false l.toArray l ss st=some (cs,f st):=by kernel_rfl):Aj P F (.region id l.toArray false) st Q:=Aj.reg hr hl h
theorem Gw {I:World→Prop} {ops:Array Oper} (ss:List Stp) (f:St→St) (hc:Bb cs) (hK:K (f st)) (h:HF P I false ops l ss st=some (cs,f st):=by kernel_rfl):CF P I ops l st K:=Run.whole (f st) h hc hK
theorem Gs (f:St→St) (h:Aj P F c (f st) Q) (hl:Ol st (f st)=some (f st):=by kernel_rfl):Aj P F c st Q:=Aj.less (Ch.t hl) h
theorem Gj {X:Type} (S:X→St→St) (Φ:X→Prop) {x y:Code} {Q:Exit→St→Prop} (hx:Aj P F x st (BM (fun st'=> ∃ v,Φ v∧Wk st' (S v st)) Q)) (hy: ∀ v,Φ v→Aj P F y (S v st) Q):Aj P F (.seq x y) st Q:=Sj (fun v=>S v st) Φ hx hy
theorem Gi {σ ρ:Type} {B:σ→Option (σ⊕ρ)} (S:σ→St→St) {N:Nat} {s0:σ} {o:ρ} {c:Code} {Q:Exit→St→Prop} (hi:PL.iter B N s0=some o) (hl:Wk st (S s0 st))
 (hb: ∀ s z,B s=some z→(∀ o',z= .inr o'→o'=o)→Aj P F c (S s st) (BM (fun st'=> ∃ s',z= .inl s'∧Wk st' (S s' st)) Q)):Aj P F (.loop c) st Q:=It (fun v=>S v st) hi hl hb
theorem hS {x y:Code} {Q:Exit→St→Prop} (h:Aj P F x st (BM (fun st'=>Aj P F y st' Q) Q)):Aj P F (.seq x y) st Q:=Aj.seq h
theorem hK (h:Q .normal st):Aj P F .skip st Q:=Aj.skip h
theorem hT (h:K st):Aj P F .skip st (BM K Q):=Aj.skip h
theorem hR (h:Q .ret st):Aj P F .ret st Q:=Aj.ret h
theorem hE {id:Nat} (h:Q (.exit id) st):Aj P F (.exit id) st Q:=Aj.exit h
theorem hB {id:Nat} {c:Code} {Q:Exit→St→Prop} (h:Aj P F c st (By id Q)):Aj P F (.block id c) st Q:=Aj.block h
theorem hO {id:Nat} {ops:Array Oper} {Q:Exit→St→Prop} (h:CF P F.I ops ops.toList st (Q .normal)):Aj P F (.region id ops false) st Q:=Aj.region h
theorem Te {i:Nat} (h:Q (.exit i) st):BM K Q (.exit i) st:=h
theorem qN {i:Nat} (h:Q .normal st):By i Q .normal st:=h
theorem qR {i:Nat} (h:Q .ret st):By i Q .ret st:=h
theorem qX {i:Nat} (h:Q .normal st):By i Q (.exit i) st:=By.out h
end
section
variable {α:Type} {e x:α}
theorem kB {e b:Bool} (h:some e=some b):vB e=vB b:=congrArg vB (sI h)
end
section
variable {α β γ δ ε:Type} {r:ε}
theorem Yr {o:Option α} {f:α→Option β} {g:α→β→Option ε} (h:(o.bind fun x=>(f x).bind (g x))=some r): ∃ x,o=some x∧ ∃ y,f x=some y∧g x y=some r:=by
 obtain⟨x,hx,h⟩:=bS h
 obtain⟨y,hy,h⟩:=bS h
 exact⟨x,hx,y,hy,h⟩
theorem vM {o:Option α} {f:α→Option β} {g:α→β→Option γ} {k:α→β→γ→Option ε} (h:(o.bind fun x=>(f x).bind fun y=>(g x y).bind (k x y))=some r): ∃ x,o=some x∧ ∃ y,f x=some y∧ ∃ z,g x y=some z∧k x y z=some r:=by
 obtain⟨x,hx,h⟩:=bS h
 obtain⟨y,hy,z,hz,h⟩:=Yr h
 exact⟨x,hx,y,hy,z,hz,h⟩
theorem pG {o:Option α} {f:α→Option β} {g:α→β→Option γ} {k:α→β→γ→Option δ} {m:α→β→γ→δ→Option ε} (h:(o.bind fun x=>(f x).bind fun y=>(g x y).bind fun z=>(k x y z).bind (m x y z))=some r): ∃ x,o=some x∧ ∃ y,f x=some y∧ ∃ z,g x y=some z∧ ∃ w,k x y z=some w∧m x y z w=some r:=by
 obtain⟨x,hx,h⟩:=bS h
 obtain⟨y,hy,z,hz,w,hw,h⟩:=vM h
 exact⟨x,hx,y,hy,z,hz,w,hw,h⟩
end
section
variable {P:Program} {F:Fr} {st:St} {K:St→Prop}
theorem iC {cc:Operand} {x y:Code} {Q:Exit→St→Prop} {β:Type} {b:Bool} {X Y:Option β} {r:β} (h:(if b=true then X else Y)=some r) (h1:X=some r→Aj P F x st Q) (h2:Y=some r→Aj P F y st Q) (hc:st.ev cc= .c (.bool b):=by kernel_rfl):Aj P F (.cond cc x y) st Q:=
 Aj.ifB b hc (fun hb=>h1 (iT h hb)) (fun hb=>h2 (iF h hb))
theorem nR {rs:List ResultVar} {m:Nat} {pre:AC} {d:Option Nat} (v:V) (hK:K (st.back m pre d v)) (h:Yw P st rs=some v:=by kernel_rfl):pP P rs m pre d K .ret st:=pP.ret h hK
def yY:Nat→Prop
 | 0=>True
 | n+1=>True∧yY n
theorem xB: ∀ n,yY n
 | 0=>trivial
 | n+1=>⟨trivial,xB n⟩
theorem Ei {I:World→Prop} {o:Oper} {x:Operand} {xs:List Operand} {c:Call} {f:FuncId} {fn:Func} {body:Code} {n:Nat} (k:Nat) (vs:List V) (cs:List C)
 (hfn:P.funcs[f]? =some fn) (hn:fn.ntmps=n) (rs:List ResultVar) (hb:fn.body=some body) (ho:o.op= .call c) (hcal:c.callee= .value x) (hxs:c.args.toList=xs)
 (h: ∀ w0 av old gv,Aj P ⟨w0,av,old,I,gv⟩ body (st.enter k (vs++cs.map V.c) n) (pP P rs st.tm.length st.pre o.dst K))
 (ha:st.args true xs=(yY vs.length,vs):=by kernel_rfl) (hf:PZ st x=some (f,cs):=by kernel_rfl) (hent:ent P f=true:=by kernel_rfl) (hr:fn.results=rs.toArray:=by kernel_rfl):Yp P I o st K:=
 Yp.inline k ho hcal hxs ha (xB _) hf hent hfn hb hn hr h
end
theorem AP.bo {P:Program} {I:World→Prop} (hsta:OZ I) {f:FuncId} {fn:Func} {c:Code} {args:List V} {Q:V→Prop} {n:Nat} (hf:P.funcs[f]? =some fn) (hb:fn.body=some c) (hn:fn.ntmps=n) (rs:List ResultVar)
 (h: ∀ w0 av old gv,Aj P ⟨w0,av,old,I,gv⟩ c (St.start args n) (fun e st'=>(e= .normal ∨e= .ret)∧(C0 P st' rs).1∧(C0 P st' rs).2.pure =true∧Q (C0 P st' rs).2))
 (hent:PL.ent P f=true:=by kernel_rfl) (hr:fn.results=rs.toArray:=by kernel_rfl):AP P I f args Q:=AP.body hsta hent hf hb hn hr rfl h
end Go.PL
namespace Go.PL
open Go Go.RowKit
end Go.PL
namespace Go.PL
open Go Go.RowKit
def LR (E n:Nat) {α:Type} (e:α→List C) (r:List α):List C:=[.isl E n r.length (r.flatMap e)]
section
variable {α:Type} {l l':List (List α)} {i j:Int} {x:List α} {y y':α} {e:α→List C} {E n:Nat}
theorem cj (h:idx l i=some x) (E n:Nat) (e:α→List C):(l.flatMap (LR E n e))[i.toNat*1]? =some (.isl E n x.length (x.flatMap e)):=by
 obtain⟨h1,h2⟩:=BR h
 have hx:=p8 h
 have hlt:i.toNat<l.length:=by omega
 have key: ∀ (l:List (List α)) (k:Nat),(l.flatMap (LR E n e))[k*1]? =l[k]?.map fun r=> .isl E n r.length (r.flatMap e):=by
  intro l
  induction l with
  | nil=>intro k;simp
  | cons a l ih=>
    intro k
    cases k with
    | zero=>simp [LR]
    | succ k=>
      have:=ih k
      simp only [Nat.mul_one]at this ⊢
      rw [List.flatMap_cons,List.getElem?_append_right (by simp [LR]),List.getElem?_cons_succ, ←this]
      simp [LR]
 rw [key,List.getElem?_eq_getElem hlt,hx,List.getD_eq_getElem?_getD,List.getElem?_eq_getElem hlt]
 rfl
theorem tr (l:List (List α)) (k:Nat) (r:List α) (E n:Nat) (e:α→List C):(l.flatMap (LR E n e)).set (k*1) (.isl E n r.length (r.flatMap e))=(l.set k r).flatMap (LR E n e):=by
 induction l generalizing k with
 | nil=>simp
 | cons a l ih=>
   cases k with
   | zero=>simp [LR]
   | succ k=>
     have:=ih k
     simp only [Nat.mul_one]at this ⊢
     simp only [List.flatMap_cons,List.set_cons_succ]
     rw [←this]
     simp [LR,List.set_append_right]
theorem vN [Inhabited α] (h:idx l i=some x) (hj:idx x j=some y) {r:List (List α)} (hl:some (l.set i.toNat (x.set j.toNat y'))=some r) {N:Nat} (hN: ∀ a,(e a).length =N) (E n:Nat) (vc:List C) (hv:e y'=vc:=by kernel_rfl):
 j.toNat*N+N≤(x.flatMap e).length ∧(l.flatMap (LR E n e)).set (i.toNat*1) (.isl E n x.length ((x.flatMap e).take (j.toNat*N)++vc++(x.flatMap e).drop (j.toNat*N+vc.length)))=r.flatMap (LR E n e):=by
 subst hv
 obtain⟨h1,h2⟩:=BR hj
 have:=Md (l:=x) (l':=x.set j.toNat y') (i:=j) (x':=y') (e:=e) (N:=N) (o:=0) (off:=j.toNat*N) (base:=0) (cs:=e y') (pre:=[]) (post:=[]) (by simp:x.flatMap e=[]++(x.flatMap e++[])) rfl rfl rfl hj hN (by simp) (by rw [hN];omega) (by
  have h0:(e y).drop (0+(e y').length)=[]:=List.drop_eq_nil_of_le (by rw [hN,hN];omega)
  rw [h0];simp)
 rw [hN]at this
 refine⟨this.1,?_⟩
 rw [hN,this.2]
 simp only [List.nil_append,List.append_nil]
 have e1:x.length=(x.set j.toNat y').length :=by rw [List.length_set]
 rw [e1,tr]
 injection hl with hl
 rw [hl]
theorem tt {b:Nat} {m:List α} {r:List (List α)} (h:app b l [m]=some r) (E n:Nat) (e:α→List C):l.flatMap (LR E n e)++[.isl E n m.length (m.flatMap e)]=r.flatMap (LR E n e):=by
 rw [Wp h,List.flatMap_append]
 rfl
theorem vQ {b:Nat} {l r:List α} {m:α} (h:app b l [m]=some r):l.length+1=r.length:=by rw [Wp h];simp
theorem tu (l:List (List α)) (E n:Nat) (e:α→List C):(l.flatMap (LR E n e)).map N7=l.flatMap (eL e):=by
 rw [List.map_flatMap]
 rfl
end
section
variable {P:Program} {F:Fr} {st:St}
theorem Wk.frD (id:AC) (E:TypeId) (n len:Nat) (cs cells:List C) (hc:cs.map N7=cells) (hl:st.lookD id=some ⟨id,some (E,n,len),cs,true⟩):Wk st (st.frD id len cells):=fun _ _ _ _ hR=>by
 obtain⟨G',q⟩:=hR.freezeD hl rfl hc
 exact⟨G',q⟩
theorem Fd (id:AC) (E:TypeId) (n len:Nat) (cs cells:List C) (st':St) {c:Code} {Q:Exit→St→Prop} (hc:cs.map N7=cells) (hh:Aj P F c st' Q)
 (hl:st.lookD id=some ⟨id,some (E,n,len),cs,true⟩:=by kernel_rfl) (h:st.frD id len cells=st':=by kernel_rfl):Aj P F c st Q:=Aj.wk (h▸Wk.frD id E n len cs cells hc hl) hh
end
end Go.PL
namespace Go.PL
open Go Go.RowKit
inductive Kd where
 | int (k:IntKind)
 | bool
 | str
 | lst (E:Nat)
def ou (den:Nat→Type):Kd→Type
 | .int _=>Int
 | .bool =>Bool
 | .str =>List UInt8
 | .lst E=>List (den E)
def DK (den:Nat→Type):List Kd→Type
 | []=>Unit
 | k::ks=>ou den k×DK den ks
def B7 {den:Nat→Type} (enc: ∀ E,den E→List C):(k:Kd)→ou den k→C
 | .int k,n=> .int k n
 | .bool,b=> .bool b
 | .str,s=> .str s
 | .lst E,l=> .sl l.length (List.flatMap (enc E) l)
def Fw {den:Nat→Type} (enc: ∀ E,den E→List C):(ks:List Kd)→DK den ks→List C
 | [],_=>[]
 | k::ks,x=>B7 enc k x.1::Fw enc ks x.2
structure C1 where
 den:Nat→Type
 inh: ∀ E,Inhabited (den E)
 enc: ∀ E,den E→List C
 ks:Nat→List Kd
 un: ∀ E,den E→DK den (ks E)
 bd: ∀ E,DK den (ks E)→den E
 beq: ∀ E,den E→den E→Bool
 unmk: ∀ E y,un E (bd E y)=y
 encok: ∀ E x,Fw enc (ks E) (un E x)=enc E x
 beqok: ∀ E x y,beq E x y=BK (enc E x) (enc E y)
variable {T:C1}
instance (E:Nat):Inhabited (T.den E):=T.inh E
def C1.sz (T:C1) (E:Nat):Nat:=(T.ks E).length
inductive DC (T:C1) where
 | c (x:C)
 | k (kd:Kd) (x:ou T.den kd)
 | ip (E:Nat) (l:List (T.den E)) (i:Int) (x:T.den E) (off:Nat)
 | rp (id:AC) (N:Nat) (i:Int) (off:Nat)
 | ap (id:AC) (base n E:Nat) (i:Int) (off:Nat)
 | clo (b:Bool) (f:FuncId) (cs:List (DC T))
mutual
def DC.toC:DC T→C
 | .c x=>x
 | .k kd x=>B7 T.enc kd x
 | .ip E l i _ off=> .iptr (l.flatMap (T.enc E)) (i.toNat*T.sz E+off)
 | .rp id N i off=> .ptr id (i.toNat*N+off)
 | .ap id base _ E i off=> .ptr id (base+i.toNat*T.sz E+off)
 | .clo true f cs=> .bmv f (A1 cs)
 | .clo false f cs=> .clo f (A1 cs)
def A1:List (DC T)→List C
 | []=>[]
 | c::cs=>c.toC::A1 cs
end
theorem CT: ∀ cs:List (DC T),A1 cs=cs.map DC.toC
 | []=>by simp [A1]
 | c::cs=>by simp [A1,CT cs]
structure GL where
 t:Nat
 w:Bool
 b:Bool
def Br:List GL→Bool
 | []=>true
 | [l]=>l.b
 | l::l'::ls=>Br (l'::ls)&&l.b
theorem HI: ∀ {k:List GL},Br k=true↔ ∀ l∈k,l.b=true
 | []=>by simp [Br]
 | [l]=>by simp [Br]
 | l::l'::ls=>by
   simp only [Br,Bool.and_eq_true,HI (k:=l'::ls),List.mem_cons]
   constructor
   ·rintro⟨h1,h2⟩ x hx
    rcases hx with rfl | hx
    ·exact h2
    ·exact h1 x hx
   ·intro h
    exact⟨fun x hx=>h x (.inr hx),h l (.inl rfl)⟩
inductive DV (T:C1) where
 | c (x:DC T)
 | agg (cs:List (DC T))
 | tup (vs:List (DV T))
 | g (key:List GL) (v:DV T)
 | u
mutual
def DV.toV:DV T→V
 | .c x=> .c x.toC
 | .agg cs=> .agg (A1 cs)
 | .tup vs=> .tup (Bx vs)
 | .g key v=> .g (Br key) v.toV
 | .u => .undef
def Bx:List (DV T)→List V
 | []=>[]
 | v::vs=>v.toV::Bx vs
end
theorem Mf: ∀ vs:List (DV T),Bx vs=vs.map DV.toV
 | []=>by simp [Bx]
 | v::vs=>by simp [Bx,Mf vs]
inductive DX (T:C1) where
 | box (cs:List (DC T))
 | row (E:Nat) (l:List (T.den E))
structure DE (T:C1) where
 id:AC
 tag:Nat
 x:DX T
def DE.toE (e:DE T):AY:=match e.x with
 | .box cs=>⟨e.id,none,A1 cs,false⟩
 | .row E l=>⟨e.id,some (E,T.sz E,l.length),l.flatMap (T.enc E),true⟩
theorem DE.toE_id (e:DE T):e.toE.id=e.id:=by
 unfold DE.toE;split<;>rfl
abbrev Tm (T:C1):=List (Nat×Nat×DV T)
def lk:Tm T→Nat→DV T
 | [],_=> .u
 | (s,_,v)::r,i=>match Nat.beq s i with
   | true=>v
   | false=>lk r i
def Yx:Tm T→Nat→Nat
 | [],_=>0
 | (s,t,_)::r,i=>match Nat.beq s i with
   | true=>t+1
   | false=>Yx r i
def Bv (m:Nat) (tm:Tm T):List V:=(List.range m).map fun i=>(lk tm i).toV
structure Az (T:C1) where
 m:Nat
 tm:Tm T
 so:List (DE T)
 gh:List (Nat×Tm T)
 pre:AC
 nx:Nat
def Az.toSt (st:Az T):St:=⟨Bv st.m st.tm,st.so.map DE.toE,st.gh.flatMap fun f=>Bv f.1 f.2,st.pre⟩
mutual
def DC.ok:DC T→Prop
 | .ip _ l i x _=>idx l i=some x
 | .clo _ _ cs=>Ci cs
 | _=>True
def Ci:List (DC T)→Prop
 | []=>True
 | c::cs=>c.ok∧Ci cs
end
theorem Cl: ∀ {cs:List (DC T)},Ci cs↔ ∀ c∈cs,c.ok
 | []=>by simp [Ci]
 | c::cs=>by simp [Ci,Cl (cs:=cs)]
structure A2 (T:C1) where
 v:Nat→DV T
 e:Nat→DE T
def jW:DV T→Bool
 | .c (.k .bool b)=>b
 | .g _ (.c (.k .bool b))=>b
 | _=>false
mutual
def DV.ok (H:A2 T) (nx:Nat):DV T→Prop
 | .c x=>x.ok
 | .agg cs=>Ci cs
 | .tup vs=>Dg H nx vs
 | .g key v=>(∀ l∈key,l.ok H nx)∧(Br key=true→v.ok H nx)
 | .u =>True
def Dg (H:A2 T) (nx:Nat):List (DV T)→Prop
 | []=>True
 | v::vs=>v.ok H nx∧Dg H nx vs
end
theorem HJ {H:A2 T} {nx:Nat}: ∀ {vs:List (DV T)},Dg H nx vs↔ ∀ v∈vs,v.ok H nx
 | []=>by simp [Dg]
 | c::cs=>by simp [Dg,HJ (vs:=cs)]
def Pb (H:A2 T) (nx:Nat) (tm:Tm T):Prop:= ∀ s t v,(s,t,v)∈tm→t<nx∧H.v t=v∧v.ok H nx
def DX.ok:DX T→Prop
 | .box cs=>Ci cs
 | .row _ _=>True
structure BV (H:A2 T) (st:Az T):Prop where
 tm:Pb H st.nx st.tm
 gh: ∀ f∈st.gh,Pb H st.nx f.2
 so: ∀ e∈st.so,e.tag<st.nx∧H.e e.tag=e∧e.x.ok
 nd:(st.so.map DE.id).Nodup
def C5 (nx:Nat) (H H':A2 T):Prop:= ∀ t,t<nx→H'.v t=H.v t∧H'.e t=H.e t
theorem C5.refl (nx:Nat) (H:A2 T):C5 nx H H:=fun _ _=>⟨rfl,rfl⟩
theorem GL.ok_ext {H H':A2 T} {n m:Nat} (he:C5 n H H') (hnm:n≤m) {l:GL} (h:l.ok H n):l.ok H' m:=
 ⟨Nat.lt_of_lt_of_le h.1 hnm,by rw [(he l.t h.1).1];exact h.2⟩
mutual
theorem DV.ok_ext {H H':A2 T} {n m:Nat} (he:C5 n H H') (hnm:n≤m): ∀ {v:DV T},v.ok H n→v.ok H' m
 | .c _,h=>by simpa only [DV.ok] using h
 | .agg _,h=>by simpa only [DV.ok] using h
 | .tup vs,h=>by simp only [DV.ok]at h ⊢;exact fD he hnm h
 | .g key v,h=>by
   simp only [DV.ok]at h ⊢
   exact⟨fun l hl=>GL.ok_ext he hnm (h.1 l hl),fun q=>DV.ok_ext he hnm (h.2 q)⟩
 | .u,_=>by simp only [DV.ok]
theorem fD {H H':A2 T} {n m:Nat} (he:C5 n H H') (hnm:n≤m): ∀ {vs:List (DV T)},Dg H n vs→Dg H' m vs
 | [],_=>by simp only [Dg]
 | v::vs,h=>by simp only [Dg]at h ⊢;exact⟨DV.ok_ext he hnm h.1,fD he hnm h.2⟩
end
theorem Cc {H H':A2 T} {n m:Nat} (he:C5 n H H') (hnm:n≤m) {tm:Tm T} (h:Pb H n tm):Pb H' m tm:=fun s t v hm=>by
 obtain⟨h1,h2,h3⟩:=h s t v hm
 exact⟨Nat.lt_of_lt_of_le h1 hnm,by rw [(he t h1).1];exact h2,DV.ok_ext he hnm h3⟩
theorem Qa (tm:Tm T) (i:Nat):lk tm i= .u ∧Yx tm i=0∨ ∃ t,(i,t,lk tm i)∈tm∧Yx tm i=t+1:=by
 induction tm with
 | nil=>exact .inl ⟨rfl,rfl⟩
 | cons x r ih=>
   obtain⟨s,t,v⟩:=x
   simp only [lk,Yx]
   cases hb:Nat.beq s i with
   | true=>
     have:=Nat.eq_of_beq_eq_true hb
     subst this
     exact .inr ⟨t,by simp,rfl⟩
   | false=>
     rcases ih with ⟨h1,h2⟩ | ⟨t',h1,h2⟩
     ·exact .inl ⟨h1,h2⟩
     ·exact .inr ⟨t',List.mem_cons_of_mem _ h1,h2⟩
theorem xC {H:A2 T} {nx:Nat} {tm:Tm T} (h:Pb H nx tm) (i:Nat):(lk tm i).ok H nx:=by
 rcases Qa tm i with ⟨h1,_⟩ | ⟨t,h1,_⟩
 ·rw [h1];simp only [DV.ok]
 ·exact(h i t _ h1).2.2
theorem ck {H:A2 T} {nx:Nat} {tm:Tm T} (h:Pb H nx tm) {i t:Nat} (ht:Yx tm i=t+1):t<nx∧H.v t=lk tm i:=by
 rcases Qa tm i with ⟨_,h1⟩ | ⟨t',h1,h2⟩
 ·rw [h1]at ht;cases ht
 ·rw [h2]at ht;injection ht with ht;subst ht
  obtain⟨a,b,_⟩:=h i t' _ h1
  exact⟨a,b⟩
def T8:Value→Option (DC T)
 | .int k n=>some (.k (.int k) n)
 | .bool b=>some (.k .bool b)
 | .string s=>some (.k .str s.data.toList)
 | v=>match GF v with
   | some c=>some (.c c)
   | none=>none
def HK:List Value→Option (List (DC T))
 | []=>some []
 | v::vs=>match T8 v,HK vs with
   | some c,some cs=>some (c::cs)
   | _,_=>none
def Sh:Value→DV T
 | .agg cs=>match HK cs.toList with
   | some l=> .agg l
   | none=> .u
 | v=>match T8 v with
   | some c=> .c c
   | none=> .u
theorem Wv {v:Value} {c:DC T} (h:T8 v=some c):GF v=some c.toC∧c.ok:=by
 unfold T8 at h
 split at h
 ·injection h with h;subst h;exact⟨rfl,by simp only [DC.ok]⟩
 ·injection h with h;subst h;exact⟨rfl,by simp only [DC.ok]⟩
 ·injection h with h;subst h;exact⟨rfl,by simp only [DC.ok]⟩
 ·split at h
  ·rename_i c' hc
   injection h with h;subst h
   exact⟨by rw [hc];simp only [DC.toC],by simp only [DC.ok]⟩
  ·cases h
theorem Ww {v:Value} (h:T8 (T:=T) v=none):GF v=none:=by
 unfold T8 at h
 split at h<;>try (cases h;done)
 split at h
 ·cases h
 ·assumption
theorem Mg: ∀ {vs:List Value} {cs:List (DC T)},HK vs=some cs→Ek vs=some (A1 cs)∧Ci cs
 | [],cs,h=>by simp [HK]at h;subst h;simp [Ek,A1,Ci]
 | v::vs,cs,h=>by
   unfold HK at h
   split at h
   ·rename_i c cs' h1 h2
    injection h with h;subst h
    obtain⟨a,b⟩:=Wv h1
    obtain⟨a',b'⟩:=Mg h2
    simp [Ek,a,a',A1,Ci,b,b']
   ·cases h
theorem T9: ∀ {vs:List Value},HK (T:=T) vs=none→Ek vs=none
 | [],h=>by simp [HK]at h
 | v::vs,h=>by
   unfold HK at h
   split at h
   ·cases h
   ·rename_i hne
    unfold Ek
    cases h1:T8 (T:=T) v with
    | none=>rw [Ww h1]
    | some c=>
      cases h2:HK (T:=T) vs with
      | none=>rw [T9 h2];cases GF v<;>rfl
      | some cs=>exact(hne c cs h1 h2).elim
theorem fE (v:Value) {H:A2 T} {nx:Nat}:(Sh (T:=T) v).toV =Km v∧(Sh (T:=T) v).ok H nx:=by
 cases v
 case agg cs=>
  simp only [Sh,Km]
  cases h:HK (T:=T) cs.toList with
  | some l=>
    obtain⟨a,b⟩:=Mg h
    simp only [a,DV.toV,DV.ok];exact⟨trivial,b⟩
  | none=>simp only [T9 h,DV.toV,DV.ok];exact⟨trivial,trivial⟩
 all_goals
  simp only [Sh,Km]
  split
  ·rename_i c h
   obtain⟨a,b⟩:=Wv h
   simp only [a,DV.toV,DV.ok];exact⟨trivial,b⟩
  ·rename_i h
   simp only [Ww h,DV.toV,DV.ok];exact⟨trivial,trivial⟩
def Az.get (st:Az T) (t:Nat):DV T:=match Nat.blt t st.m with
 | true=>lk st.tm t
 | false=> .u
def Az.ev (st:Az T):Operand→DV T
 | .tmp t=>st.get t
 | .const v=>Sh v
 | .func f=> .c (.c (.fn f))
 | .global _=> .u
theorem ZX (m:Nat) (tm:Tm T) (t:Nat):(Bv m tm).getD t .undef =(match Nat.blt t m with | true=>(lk tm t).toV | false=> .undef):=by
 unfold Bv
 rw [List.getD_eq_getElem?_getD,List.getElem?_map]
 cases hb:Nat.blt t m with
 | true=>
   have:t<m:=by simpa using hb
   rw [List.getElem?_range this];rfl
 | false=>
   have: ¬t<m:=by
    intro h
    have h2:Nat.blt t m=true:=by simpa using h
    rw [h2]at hb;cases hb
   rw [List.getElem?_eq_none (by simpa using this)];rfl
theorem Az.get_ok {H:A2 T} {st:Az T} (h:BV H st) (t:Nat):(st.get t).ok H st.nx:=by
 unfold Az.get
 split
 ·exact xC h.tm t
 ·simp only [DV.ok]
theorem Az.ev_ok {H:A2 T} {st:Az T} (h:BV H st) (x:Operand):(st.ev x).ok H st.nx:=by
 cases x with
 | tmp t=>exact Az.get_ok h t
 | const v=>exact(fE v).2
 | func f=>simp only [Az.ev,DV.ok,DC.ok]
 | global g=>simp only [Az.ev,DV.ok]
def GL.eq (a b:GL):Bool:=Nat.beq a.t b.t&&(a.w==b.w)
def Wx (l:GL):List GL→Bool
 | []=>false
 | a::r=>match GL.eq l a with
   | true=>true
   | false=>Wx l r
def Si:List GL→List GL→Bool
 | [],_=>true
 | l::ls,k=>match Wx l k with
   | true=>Si ls k
   | false=>false
def Fx (H:A2 T) (nx:Nat) (k:List GL):Prop:= ∀ l∈k,l.ok H nx
theorem GL.eq_b {H:A2 T} {nx:Nat} {a b:GL} (h:a.eq b=true) (ha:a.ok H nx) (hb:b.ok H nx):a.b=b.b:=by
 simp only [GL.eq,Bool.and_eq_true,Nat.beq_eq,beq_iff_eq]at h
 rw [ha.2,hb.2,h.1,h.2]
theorem fF {H:A2 T} {nx:Nat} {l:GL}: ∀ {k:List GL},Wx l k=true→l.ok H nx→Fx H nx k→Br k=true→l.b=true
 | [],h,_,_,_=>by simp [Wx]at h
 | a::r,h,hl,hk,hc=>by
   unfold Wx at h
   have hc':=HI.1 hc
   split at h
   ·rename_i he
    rw [GL.eq_b he hl (hk a (by simp))]
    exact hc' a (by simp)
   ·exact fF h hl (fun x hx=>hk x (by simp [hx])) (HI.2 fun x hx=>hc' x (by simp [hx]))
theorem Qb {H:A2 T} {nx:Nat}: ∀ {ls k:List GL},Si ls k=true→Fx H nx ls→Fx H nx k→Br k=true→Br ls=true
 | [],_,_,_,_,_=>rfl
 | l::ls,k,h,h1,h2,hc=>by
   unfold Si at h
   split at h
   ·rename_i hh
    have a:=fF hh (h1 l (by simp)) h2 hc
    have b:=Qb h (fun x hx=>h1 x (by simp [hx])) h2 hc
    refine HI.2 fun x hx=>?_
    rcases List.mem_cons.1 hx with rfl | hx
    ·exact a
    ·exact HI.1 b x hx
   ·cases h
def Az.arg (st:Az T) (key:List GL) (x:Operand):Option (DV T):=match st.ev x with
 | .g k v=>match Si k key with
   | true=>some v
   | false=>none
 | v=>some v
theorem Az.arg_spec {H:A2 T} {st:Az T} {key:List GL} {x:Operand} {v:DV T} (hw:BV H st) (hk:Fx H st.nx key) (h:st.arg key x=some v) (hc:Br key=true):
 v.ok H st.nx∧(st.toSt.arg (Br key) x).1∧(st.toSt.arg (Br key) x).2=v.toV:=by
 have hev:=Az.ev_ok hw x
 have e:=st.ev_toSt x
 unfold Az.arg at h
 unfold St.arg
 split at h
 ·rename_i k v' hx
  split at h
  ·rename_i hs
   injection h with h;subst h
   rw [hx]at e hev
   simp only [DV.ok]at hev
   simp only [DV.toV]at e
   rw [e]
   have:=Qb hs hev.1 hk hc
   exact⟨hev.2 this,fun _=>this,rfl⟩
  ·cases h
 ·rename_i hne
  injection h with h;subst h
  refine⟨hev,?_⟩
  rw [e]
  cases hv:st.ev x with
  | g k v=>exact(hne k v hv).elim
  | c x=>simp only [DV.toV];exact⟨trivial,trivial⟩
  | agg x=>simp only [DV.toV];exact⟨trivial,trivial⟩
  | tup x=>simp only [DV.toV];exact⟨trivial,trivial⟩
  | u=>simp only [DV.toV];exact⟨trivial,trivial⟩
def M (α:Type):=(R:Type)→(α→Option R)→Option R
namespace M
variable {α β:Type}
def ret (v:α):M α:=fun _ K=>K v
def no:M α:=fun _ _=>none
def sm (o:Option α):M α:=fun _ K=>match o with
 | some v=>K v
 | none=>none
def opt (o:Option β) (f:β→M α):M α:=fun R K=>o.bind fun x=>f x R K
def bnd (m:M β) (f:β→M α):M α:=fun R K=>m R fun x=>f x R K
end M
def Yl {α:Type} (m:M α) (Φ:α→Prop):Prop:= ∀ (R:Type) (K:α→Option R) (r:R),m R K=some r→ ∃ v,Φ v∧K v=some r
namespace Yl
variable {α β:Type} {Φ:α→Prop}
theorem ret {v:α} (h:Φ v):Yl (M.ret v) Φ:=fun _ _ _ hr=>⟨v,h,hr⟩
theorem no:Yl (M.no) Φ:=fun _ _ _ hr=>by cases hr
theorem sm {o:Option α} (h: ∀ v,o=some v→Φ v):Yl (M.sm o) Φ:=fun R K r hr=>by
 unfold M.sm at hr
 split at hr
 ·exact⟨_,h _ rfl,hr⟩
 ·cases hr
theorem opt {o:Option β} {f:β→M α} (h: ∀ x,o=some x→Yl (f x) Φ):Yl (M.opt o f) Φ:=fun R K r hr=>by
 unfold M.opt at hr
 obtain⟨x,h1,h2⟩:=bS hr
 exact h x h1 R K r h2
theorem bnd {m:M β} {f:β→M α} {Ψ:β→Prop} (hm:Yl m Ψ) (h: ∀ x,Ψ x→Yl (f x) Φ):Yl (M.bnd m f) Φ:=fun R K r hr=>by
 obtain⟨v,h1,h2⟩:=hm R _ r hr
 exact h v h1 R K r h2
theorem mono {m:M α} {Ψ:α→Prop} (hm:Yl m Ψ) (h: ∀ x,Ψ x→Φ x):Yl m Φ:=fun R K r hr=>by
 obtain⟨v,h1,h2⟩:=hm R K r hr
 exact⟨v,h v h1,h2⟩
end Yl
def gk {α:Type} [Inhabited α] (key:List GL) (o:Option α):Option α:=match key with
 | []=>o
 | l::ls=>gd (Br (l::ls)) o
theorem Wy {α:Type} [Inhabited α] {key:List GL} {o:Option α} {x:α} (h:gk key o=some x) (hc:Br key=true):o=some x:=by
 unfold gk at h
 split at h
 ·exact h
 ·exact U0 h hc
end Go.PL
namespace Go.PL
open Go Go.RowKit
variable {T:C1}
def Ua {den:Nat→Type} {T:C1} (h: ∀ k,ou den k→DC T):(ks:List Kd)→DK den ks→List (DC T)
 | [],_=>[]
 | k::ks,x=>h k x.1::Ua h ks x.2
def jX (E:Nat) (x:T.den E):List (DC T):=Ua (fun k y=> .k k y) (T.ks E) (T.un E x)
theorem Wz: ∀ (ks:List Kd) (y:DK T.den ks),A1 (Ua (T:=T) (fun k y=> .k k y) ks y)=Fw T.enc ks y
 | [],_=>by simp [Ua,A1,Fw]
 | k::ks,y=>by simp only [Ua,A1,Fw,Wz ks,DC.toC]
theorem HL (E:Nat) (x:T.den E):A1 (jX E x)=T.enc E x:=by rw [jX,Wz,T.encok]
theorem fG: ∀ (ks:List Kd) (y:DK T.den ks),Ci (Ua (T:=T) (fun k y=> .k k y) ks y)
 | [],_=>by simp [Ua,Ci]
 | k::ks,y=>by simp only [Ua,Ci,DC.ok];exact⟨trivial,fG ks y.2⟩
theorem Pc (E:Nat) (x:T.den E):Ci (jX E x):=fG _ _
theorem ZY {den:Nat→Type} {enc: ∀ E,den E→List C}: ∀ (ks:List Kd) (y:DK den ks),(Fw enc ks y).length =ks.length
 | [],_=>rfl
 | k::ks,y=>by simp [Fw,ZY ks]
theorem FZ (E:Nat) (x:T.den E):(T.enc E x).length =T.sz E:=by rw [←T.encok,ZY];rfl
theorem WA {den:Nat→Type} {enc: ∀ E,den E→List C} (k:Kd) (x:ou den k):(B7 enc k x).pure =true:=by
 cases k<;>rfl
theorem WB {den:Nat→Type} {enc: ∀ E,den E→List C}: ∀ (ks:List Kd) (y:DK den ks),AJ (Fw enc ks y)=true
 | [],_=>rfl
 | k::ks,y=>by simp only [Fw,AJ,WA,WB ks,Bool.and_self]
theorem WC (E:Nat) (x:T.den E):AJ (T.enc E x)=true:=by rw [←T.encok];exact WB _ _
theorem ov (E:Nat) (l:List (T.den E)):AJ (l.flatMap (T.enc E))=true:=Od _ (WC E) l
def Qc (nils:Bool):(k:Kd)→DC T→Option (ou T.den k)
 | .int k, .k (.int k') n=>match k'==k with
   | true=>some n
   | false=>none
 | .bool, .k .bool b=>some b
 | .str, .k .str s=>some s
 | .lst E, .k (.lst E') l=>match Nat.decEq E' E with
   | .isTrue h=>some (show List (T.den E)from h▸l)
   | .isFalse _=>none
 | .lst E, .c (.sl 0 [])=>some ([]:List (T.den E))
 | .lst E, .c .nils =>match nils with
   | true=>some ([]:List (T.den E))
   | false=>none
 | _,_=>none
def ZZ (nils:Bool):(ks:List Kd)→List (DC T)→Option (DK T.den ks)
 | [],[]=>some ()
 | k::ks,c::cs=>match Qc nils k c,ZZ nils ks cs with
   | some x,some y=>some (x,y)
   | _,_=>none
 | _,_=>none
def qx (nils:Bool) (E:Nat) (cs:List (DC T)):Option (T.den E):=match ZZ nils (T.ks E) cs with
 | some y=>some (T.bd E y)
 | none=>none
theorem Kv {nils:Bool} {k:Kd} {c:DC T} {x:ou T.den k} (h:Qc nils k c=some x):Gd c.toC=B7 T.enc k x∧(nils=false→c.toC=B7 T.enc k x):=by
 unfold Qc at h
 split at h
 ·split at h
  ·rename_i hb
   have:=beq_iff_eq.1 hb
   subst this
   injection h with h;subst h
   exact⟨rfl,fun _=>rfl⟩
  ·cases h
 ·injection h with h;subst h;exact⟨rfl,fun _=>rfl⟩
 ·injection h with h;subst h;exact⟨rfl,fun _=>rfl⟩
 ·split at h
  ·rename_i e _
   subst e
   injection h with h;subst h
   exact⟨rfl,fun _=>rfl⟩
  ·cases h
 ·injection h with h;subst h;exact⟨rfl,fun _=>rfl⟩
 ·split at h
  ·injection h with h;subst h;exact⟨rfl,fun q=>by cases q⟩
  ·cases h
 ·cases h
theorem WD {nils:Bool}: ∀ {ks:List Kd} {cs:List (DC T)} {y:DK T.den ks},ZZ nils ks cs=some y→(A1 cs).map Gd=Fw T.enc ks y∧(nils=false→A1 cs=Fw T.enc ks y)
 | [],[],y,_=>by simp [A1,Fw]
 | [],_::_,_,h=>by simp [ZZ]at h
 | _::_,[],_,h=>by simp [ZZ]at h
 | k::ks,c::cs,y,h=>by
   unfold ZZ at h
   split at h
   ·rename_i x y' h1 h2
    injection h with h;subst h
    obtain⟨a1,a2⟩:=Kv h1
    obtain⟨b1,b2⟩:=WD h2
    simp only [A1,List.map_cons,Fw,a1,b1,true_and]
    intro hn
    rw [a2 hn,b2 hn]
   ·cases h
theorem HM {nils:Bool} {E:Nat} {cs:List (DC T)} {x:T.den E} (h:qx nils E cs=some x):(A1 cs).map Gd=T.enc E x∧(nils=false→A1 cs=T.enc E x):=by
 unfold qx at h
 split at h
 ·rename_i y hy
  injection h with h;subst h
  rw [←T.encok,T.unmk]
  exact WD hy
 ·cases h
def Kw (E:Nat):Nat→List (DC T)→Option (List (T.den E))
 | 0,_=>some []
 | n+1,cs=>match qx false E (cs.take (T.sz E)),Kw E n (cs.drop (T.sz E))with
   | some x,some l=>some (x::l)
   | _,_=>none
theorem Hh (n:Nat) (cs:List (DC T)):A1 (cs.take n)=(A1 cs).take n:=by simp [CT,List.map_take]
theorem EL (n:Nat) (cs:List (DC T)):A1 (cs.drop n)=(A1 cs).drop n:=by simp [CT,List.map_drop]
theorem B2 (a b:List (DC T)):A1 (a++b)=A1 a++A1 b:=by simp [CT]
theorem Bf (a:List (DC T)):(A1 a).length =a.length:=by simp [CT]
theorem EM {E:Nat}: ∀ {n:Nat} {cs:List (DC T)} {l:List (T.den E)},Kw E n cs=some l→l.length=n∧ ∃ r,A1 cs=l.flatMap (T.enc E)++r
 | 0,cs,l,h=>by simp [Kw]at h;subst h;exact⟨rfl,A1 cs,by simp⟩
 | n+1,cs,l,h=>by
   unfold Kw at h
   split at h
   ·rename_i x l' h1 h2
    injection h with h;subst h
    have a:=(HM h1).2 rfl
    obtain⟨b1,r,b2⟩:=EM h2
    refine⟨by simp [b1],r,?_⟩
    rw [Hh]at a
    rw [EL]at b2
    rw [List.flatMap_cons,List.append_assoc, ←b2, ←a,List.take_append_drop]
   ·cases h
def HN (ag:Bool) (off n:Nat) (cs:List (DC T)):DV T:=match ag with
 | true=> .agg ((cs.drop off).take n)
 | false=> .c (cs.getD off (.c .any))
theorem JJ (ag:Bool) (off n:Nat) (cs:List (DC T)):(HN ag off n cs).toV =toV ag off n (A1 cs):=by
 cases ag
 ·simp only [HN,DV.toV,toV,CT]
  rw [if_neg (by simp),List.getD_eq_getElem?_getD,List.getD_eq_getElem?_getD,List.getElem?_map]
  cases cs[off]? <;>simp [DC.toC]
 ·simp only [HN,DV.toV,toV,Hh,EL];rfl
theorem NB {cs:List (DC T)} (h:Ci cs) (n:Nat):Ci (cs.take n):=Cl.2 fun c hc=>Cl.1 h c (List.mem_of_mem_take hc)
theorem NC {cs:List (DC T)} (h:Ci cs) (n:Nat):Ci (cs.drop n):=Cl.2 fun c hc=>Cl.1 h c (List.mem_of_mem_drop hc)
theorem CI {a b:List (DC T)} (h:Ci a) (k:Ci b):Ci (a++b):=Cl.2 fun c hc=>by
 rcases List.mem_append.1 hc with q | q
 ·exact Cl.1 h c q
 ·exact Cl.1 k c q
theorem JK {H:A2 T} {nx:Nat} (ag:Bool) (off n:Nat) {cs:List (DC T)} (h:Ci cs):(HN ag off n cs).ok H nx:=by
 cases ag
 ·simp only [HN,DV.ok]
  rw [List.getD_eq_getElem?_getD]
  cases hx:cs[off]? with
  | none=>simp [DC.ok]
  | some c=>exact Cl.1 h c (List.mem_of_getElem? hx)
 ·simp only [HN,DV.ok];exact NB (NC h _) _
def Cp:AC→AC→Bool
 | [],[]=>true
 | a::x,b::y=>match Nat.beq a b with
   | true=>Cp x y
   | false=>false
 | _,_=>false
theorem BG: ∀ {a b:AC},Cp a b=true↔a=b
 | [],[]=>by simp [Cp]
 | [],_::_=>by simp [Cp]
 | _::_,[]=>by simp [Cp]
 | a::x,b::y=>by
   unfold Cp
   cases h:Nat.beq a b with
   | true=>
     have:=Nat.eq_of_beq_eq_true h
     subst this
     simp [BG (a:=x) (b:=y)]
   | false=>
     have:a ≠ b:=fun e=>by subst e;simp at h
     simp [this]
def mY:List (DC T)→Bool
 | [.c (.mp _)]=>true
 | _=>false
def JL:List (DE T)→AC→Option (DE T)
 | [],_=>none
 | e::r,id=>match Cp e.id id with
   | true=>some e
   | false=>JL r id
def DX.isM:DX T→Bool
 | .box cs=>mY cs
 | .row _ _=>false
def Az.look (st:Az T) (id:AC):Option (DX T):=match Fs id||Lo id with
 | true=>none
 | false=>match JL st.so id with
   | some e=>match e.x.isM with
     | true=>none
     | false=>some e.x
   | none=>none
theorem HO: ∀ {l:List (DE T)} {id:AC} {e:DE T},JL l id=some e→e∈l∧e.id=id∧ ∀ p:AY→Bool,(∀ x:DE T,x.id ≠ id→p x.toE=false)→p e.toE=true→(l.map DE.toE).find? p=some e.toE
 | [],_,_,h=>by simp [JL]at h
 | x::r,id,e,h=>by
   unfold JL at h
   split at h
   ·rename_i hb
    injection h with h;subst h
    exact⟨by simp,BG.1 hb,fun p _ hp=>by simp [List.find?_cons,hp]⟩
   ·rename_i hb
    obtain⟨h1,h2,h3⟩:=HO h
    refine⟨by simp [h1],h2,fun p hp he=>?_⟩
    have hne:x.id ≠ id:=fun q=>by rw [BG.2 q]at hb;cases hb
    rw [List.map_cons,List.find?_cons,hp x hne]
    exact h3 p hp he
theorem Z0 {cs:List (DC T)} (h:mY cs=false) (hk: ∀ c∈cs, ∀ kv,c.toC= .mp kv→c= .c (.mp kv)):bt (A1 cs)=false:=by
 match cs with
 | []=>rfl
 | [c]=>
   simp only [A1,bt]
   split
   ·rename_i kv he
    injection he with he _
    have:=hk c (by simp) kv he
    subst this
    simp [mY]at h
   ·rfl
 | a::b::r=>
   simp only [A1]
   generalize a.toC=x
   generalize b.toC=y
   generalize A1 r=z
   cases x<;>rfl
theorem qy (c:DC T) (kv:List (Int×Int)) (h:c.toC= .mp kv):c= .c (.mp kv):=by
 cases c with
 | c x=>simp only [DC.toC]at h;subst h;rfl
 | k kd x=>cases kd<;>simp [DC.toC,B7]at h
 | ip=>simp [DC.toC]at h
 | rp=>simp [DC.toC]at h
 | ap=>simp [DC.toC]at h
 | clo b f cs=>cases b<;>simp [DC.toC]at h
theorem Az.look_spec {st:Az T} {id:AC} {x:DX T} (h:st.look id=some x): ∃ e,e∈st.so∧e.id=id∧e.x=x∧st.toSt.look id=some e.toE∧st.toSt.lookR id=some e.toE∧Lo id=false∧Fs id=false:=by
 unfold Az.look at h
 split at h
 ·cases h
 ·rename_i hd
  simp only [Bool.or_eq_false_iff]at hd
  split at h
  ·rename_i e he
   split at h
   ·cases h
   ·rename_i hm
    injection h with h;subst h
    obtain⟨h1,h2,h3⟩:=HO he
    have hM:e.toE.isM=false:=by
     unfold DE.toE AY.isM
     cases hx:e.x with
     | box cs=>
       rw [hx]at hm
       exact Z0 hm (fun c _ kv q=>qy c kv q)
     | row E l=>rfl
    have hid:=e.toE_id
    refine⟨e,h1,h2,rfl,?_,?_,hd.2,hd.1⟩
    ·refine h3 _ (fun y hy=>?_) ?_
     ·simp only [DE.toE_id,Bool.and_eq_false_iff,beq_eq_false_iff_ne];exact .inl hy
     ·simp only [hid,h2,hM,hd.2];simp
    ·refine h3 _ (fun y hy=>?_) ?_
     ·simp only [DE.toE_id,Bool.and_eq_false_iff,beq_eq_false_iff_ne];exact .inl hy
     ·simp only [hid,h2,hM];simp
  ·cases h
theorem DE.toE_box {e:DE T} {cs:List (DC T)} (h:e.x= .box cs):e.toE=⟨e.id,none,A1 cs,false⟩:=by unfold DE.toE;rw [h]
theorem DE.toE_row {e:DE T} {E:Nat} {l:List (T.den E)} (h:e.x= .row E l):e.toE=⟨e.id,some (E,T.sz E,l.length),l.flatMap (T.enc E),true⟩:=by unfold DE.toE;rw [h]
def Mh (ag:Bool) (off n N:Nat):Bool:=Nat.ble (off+n) N&&(ag||Nat.blt 0 n)
theorem EN {ag:Bool} {off n N:Nat} (h:Mh ag off n N=true):off+n≤N∧(ag=true∨0<n):=by
 simp only [Mh,Bool.and_eq_true,Nat.ble_eq,Bool.or_eq_true,Nat.blt_eq]at h;exact h
def Qd (st:Az T) (id:AC):Option (List (DC T)):=match st.look id with
 | some (.box cs)=>some cs
 | _=>none
def Om (st:Az T) (id:AC):Option ((E:Nat)×List (T.den E)):=match st.look id with
 | some (.row E l)=>some ⟨E,l⟩
 | _=>none
theorem FC {st:Az T} {id:AC} {cs:List (DC T)} (h:Qd st id=some cs):st.toSt.look id=some ⟨id,none,A1 cs,false⟩∧st.toSt.lookR id=some ⟨id,none,A1 cs,false⟩∧ ∃ e∈st.so,e.id=id∧e.x= .box cs:=by
 unfold Qd at h
 split at h
 ·rename_i cs' hl
  injection h with h;subst h
  obtain⟨e,h1,h2,h3,h4,h5,_⟩:=Az.look_spec hl
  have:=DE.toE_box h3
  rw [h2]at this
  rw [←this]
  exact⟨h4,h5,e,h1,h2,h3⟩
 ·cases h
theorem DJ {st:Az T} {id:AC} {E:Nat} {l:List (T.den E)} (h:Om st id=some ⟨E,l⟩):st.toSt.look id=some ⟨id,some (E,T.sz E,l.length),l.flatMap (T.enc E),true⟩∧st.toSt.lookR id=some ⟨id,some (E,T.sz E,l.length),l.flatMap (T.enc E),true⟩∧ ∃ e∈st.so,e.id=id∧e.x= .row E l:=by
 unfold Om at h
 split at h
 ·rename_i E' l' hl
  injection h with h
  injection h with h1 h2
  subst h1
  have h2:=eq_of_heq h2
  subst h2
  obtain⟨e,h1,h2,h3,h4,h5,_⟩:=Az.look_spec hl
  have:=DE.toE_row h3
  rw [h2]at this
  rw [←this]
  exact⟨h4,h5,e,h1,h2,h3⟩
 ·cases h
theorem Qe {H:A2 T} {st:Az T} (hw:BV H st) {id:AC} {cs:List (DC T)} (h:Qd st id=some cs):Ci cs:=by
 obtain⟨_,_,e,h1,_,h3⟩:=FC h
 have:=(hw.so e h1).2.2
 rw [h3]at this
 exact this
def mZ (P:Program) (t:TypeId) (key:List GL) (st:Az T) (v:DV T):M (DV T):=
 match Oe P t with
 | none=> .no
 | some (ag,n)=>match v with
   | .c (.c (.ptr id off))=>match Qd st id with
     | some cs=>match Mh ag off n cs.length with
       | true=> .ret (HN ag off n cs)
       | false=> .no
     | none=> .no
   | .c (.ip E _ _ x off)=>match Mh ag off n (T.sz E)with
     | true=> .ret (HN ag off n (jX E x))
     | false=> .no
   | .c (.rp id N i off)=>match Om st id with
     | some ⟨E,l⟩=>match Nat.beq (T.sz E) N&&Mh ag off n N with
       | true=> .opt (gk key (idx l i)) fun x=> .ret (HN ag off n (jX E x))
       | false=> .no
     | none=> .no
   | .c (.ap id base m E i off)=>match Qd st id with
     | some cs=>match Kw E m (cs.drop base),Mh ag off n (T.sz E)&&Nat.ble base cs.length with
       | some l,true=> .opt (gk key (idx l i)) fun x=> .ret (HN ag off n (jX E x))
       | _,_=> .no
     | none=> .no
   | _=> .no
def Rd (H:A2 T) (P:Program) (st:Az T) (key:List GL) (op:Op) (v:DV T):Prop:=
 Br key=true→v.ok H st.nx∧(El P st.toSt (Br key) op).1∧(El P st.toSt (Br key) op).2=v.toV
theorem fH {E:Nat} {l:List (T.den E)} {i:Int} {x:T.den E} {off n:Nat} {ag:Bool} (hx:idx l i=some x) (ho:Mh ag off n (T.sz E)=true):
 i.toNat*T.sz E+off+n≤(l.flatMap (T.enc E)).length ∧toV ag (i.toNat*T.sz E+off) n (l.flatMap (T.enc E))=(HN (T:=T) ag off n (jX E x)).toV :=by
 obtain⟨h1,h2⟩:=EN ho
 refine b0 hx (fun y=>FZ E y) rfl h1 h2 ?_
 rw [JJ,HL]
theorem fI {H:A2 T} {P:Program} {t:TypeId} {key:List GL} {st:Az T} {v:DV T} (hw:BV H st) (hv:Br key=true→v.ok H st.nx):
 Yl (mZ P t key st v) (fun r=>Br key=true→r.ok H st.nx∧(Eo P t st.toSt v.toV).1∧(Eo P t st.toSt v.toV).2=r.toV):=by
 unfold mZ
 split
 ·exact Yl.no
 ·rename_i ag n ht
  split
  ·rename_i id off
   split
   ·rename_i cs hb
    split
    ·rename_i ho
     obtain⟨h1,h2⟩:=EN ho
     refine Yl.ret fun _=>⟨JK _ _ _ (Qe hw hb),?_⟩
     simp only [DV.toV,DC.toC,Eo,ht,(FC hb).2.1]
     rw [JJ,Bf]
     exact⟨⟨h1,h2⟩,rfl⟩
    ·exact Yl.no
   ·exact Yl.no
  ·rename_i E l i x off
   split
   ·rename_i ho
    refine Yl.ret fun hc=>⟨JK _ _ _ (Pc E x),?_⟩
    have hx:=hv hc
    simp only [DV.ok,DC.ok]at hx
    obtain⟨a,b⟩:=fH (T:=T) hx ho
    simp only [DV.toV,DC.toC,Eo,ht]
    exact⟨⟨a,(EN ho).2⟩,b⟩
   ·exact Yl.no
  ·rename_i id N i off
   split
   ·rename_i E l hb
    split
    ·rename_i ho
     simp only [Bool.and_eq_true,Nat.beq_eq]at ho
     obtain⟨e,ho⟩:=ho
     subst e
     refine Yl.opt fun x hx=>Yl.ret fun hc=>⟨JK _ _ _ (Pc E x),?_⟩
     obtain⟨a,b⟩:=fH (T:=T) (Wy hx hc) ho
     simp only [DV.toV,DC.toC,Eo,ht,(DJ hb).2.1]
     exact⟨⟨a,(EN ho).2⟩,b⟩
    ·exact Yl.no
   ·exact Yl.no
  ·rename_i id base m E i off
   split
   ·rename_i cs hb
    split
    ·rename_i l hl ho
     refine Yl.opt fun x hx=>Yl.ret fun hc=>⟨JK _ _ _ (Pc E x),?_⟩
     simp only [Bool.and_eq_true,Nat.ble_eq]at ho
     obtain⟨ho,hbase⟩:=ho
     obtain⟨h1,h2⟩:=EN ho
     obtain⟨hlen,r,hr⟩:=EM hl
     rw [EL]at hr
     have:=qe (cs:=A1 cs) (pre:=(A1 cs).take base) (post:=r) (base:=base) (e:=T.enc E) (N:=T.sz E) (o:=off) (n:=n) (ag:=ag) (v:=(HN (T:=T) ag off n (jX E x)).toV) (off:=base+i.toNat*T.sz E+off)
      (by rw [←hr,List.take_append_drop]) (by rw [List.length_take,Bf];omega) (Wy hx hc) (fun y=>FZ E y) (by omega) h1 h2 (by rw [JJ,HL])
     simp only [DV.toV,DC.toC,Eo,ht,(FC hb).2.1]
     exact⟨⟨this.1,h2⟩,this.2⟩
    ·exact Yl.no
   ·exact Yl.no
  ·exact Yl.no
end Go.PL
namespace Go.PL
open Go Go.RowKit
variable {T:C1}
def WE (st:Az T):Operand→Nat
 | .tmp t=>match Nat.blt t st.m with
   | true=>Yx st.tm t
   | false=>0
 | _=>0
def Sk (key:List GL) (tc:Nat) (w p:Bool):List GL:=match tc with
 | 0=>key
 | t+1=>⟨t,w,p==w⟩::key
def Sl:DV T→Option (List GL×Bool)
 | .c (.k .bool q)=>some ([],q)
 | .g k (.c (.k .bool q))=>some (k,q)
 | _=>none
def qz (key:List GL) (tc:Nat) (p:Bool) (a b:DV T):M (DV T):=
 match Sl a,Sl b with
 | some (ka,q),some (kb,r)=>match Si ka (Sk key tc true p),Si kb (Sk key tc false p)with
   | true,true=> .ret (.c (.k .bool (if p=true then q else r)))
   | _,_=> .no
 | _,_=> .no
def WF (op:BinOp) (k:IntKind) (a b:Int):DC T:=
 match op with
 | .add => .k (.int k) (k.wrap (a+b))
 | .sub => .k (.int k) (k.wrap (a - b))
 | .mul => .k (.int k) (k.wrap (a*b))
 | .quo => .k (.int k) (k.wrap (a.tdiv b))
 | .rem => .k (.int k) (a.tmod b)
 | .and => .k (.int k) (em k a b)
 | .or => .k (.int k) (eo k a b)
 | .xor => .k (.int k) (jf k a b)
 | .andNot => .k (.int k) (Vx k a b)
 | .shl => .k (.int k) (k.wrap (a*2 ^ (min b.toNat k.bits)))
 | .shr => .k (.int k) (a.fdiv (2 ^ (min b.toNat k.bits)))
 | .eql => .k .bool (a==b)
 | .neq => .k .bool (a != b)
 | .lss => .k .bool (decide (a<b))
 | .leq => .k .bool (decide (a≤b))
 | .gtr => .k .bool (decide (b<a))
 | .geq => .k .bool (decide (b≤a))
theorem qA (op:BinOp) (k:IntKind) (a b:Int):(WF (T:=T) op k a b).toC =(Iy op k a b).2∧(WF (T:=T) op k a b).ok :=by
 cases op<;>exact⟨rfl,by simp only [WF,DC.ok]⟩
def xD (op:BinOp) (a b:List UInt8):Option (DC T):=
 match op with
 | .eql =>some (.k .bool (a==b))
 | .neq =>some (.k .bool (a != b))
 | .lss =>some (.k .bool (Op.bytesLess a b))
 | .leq =>some (.k .bool (Op.bytesLess a b||a==b))
 | .gtr =>some (.k .bool (!(Op.bytesLess a b||a==b)))
 | .geq =>some (.k .bool (!Op.bytesLess a b))
 | _=>none
def oz (op:BinOp) (b:Bool):Option (DC T):=
 match op with
 | .eql =>some (.k .bool b)
 | .neq =>some (.k .bool !b)
 | _=>none
def mIf {α:Type} (b:Bool) (m:M α):M α:=match b with
 | true=>m
 | false=> .no
theorem Yl.mIf {α:Type} {Φ:α→Prop} {b:Bool} {m:M α} (h:b=true→Yl m Φ):Yl (PL.mIf b m) Φ:=by
 cases b with
 | true=>exact h rfl
 | false=>exact Yl.no
def qB:Operand→Bool
 | .const (.int _ n)=> !(decide (n=0))
 | _=>false
def qC:Operand→Bool
 | .const (.int _ n)=>decide (0≤n)
 | _=>false
def nd (lit:Bool) (key:List GL) (p:Prop) [Decidable p] (v:DV T):M (DV T):=match lit with
 | true=> .ret v
 | false=> .opt (gk key (need p)) fun _=> .ret v
def qD (op:BinOp) (key:List GL) (nz nn:Bool) (k:IntKind) (a b:Int):M (DV T):=
 match op with
 | .quo =>nd nz key (b ≠ 0) (.c (WF .quo k a b))
 | .rem =>nd nz key (b ≠ 0) (.c (WF .rem k a b))
 | .shl =>nd nn key (0≤b) (.c (WF .shl k a b))
 | .shr =>nd nn key (0≤b) (.c (WF .shr k a b))
 | op=> .ret (.c (WF op k a b))
def uK (op:BinOp) (key:List GL) (a b:List UInt8):M (DV T):=
 match op with
 | .add => .opt (gk key (cat a b)) fun s=> .ret (.c (.k .str s))
 | op=>match xD op a b with
   | some v=> .ret (.c v)
   | none=> .no
def uL (op:BinOp) (a b:Bool):M (DV T):=
 match op with
 | .eql => .ret (.c (.k .bool (a==b)))
 | .neq => .ret (.c (.k .bool (a != b)))
 | _=> .no
def vR (P:Program) (op:BinOp) (t:TypeId) (key:List GL) (kc nz nn:Bool) (x y:DV T):M (DV T):=
 match x,y with
 | .c (.k (.int k) a), .c (.k (.int k') b)=>mIf (yi op k k') (qD op key nz nn k a b)
 | .c (.k .str a), .c (.k .str b)=>uK op key a b
 | .c (.k .bool a), .c (.k .bool b)=>mIf (RP P t) (uL op a b)
 | .c (.c .niface), .c (.c .niface)=>mIf (kc&&Iz P t)<|match oz op true with
   | some v=> .ret (.c v)
   | none=> .no
 | .c (.c .held), .c (.c .niface)=>mIf (Iz P t)<|match oz op false with
   | some v=> .ret (.c v)
   | none=> .no
 | .c (.c (.ptr _ _)), .c (.c .nilp)=>mIf (TL P t)<|match oz op false with
   | some v=> .ret (.c v)
   | none=> .no
 | .c (.c .nilp), .c (.c .nilp)=>mIf (TL P t)<|match oz op true with
   | some v=> .ret (.c v)
   | none=> .no
 | .agg cs, .agg ds=>match qx false t cs,qx false t ds with
   | some x,some y=>mIf (js P t (A1 cs) (A1 ds))<|match op with
     | .eql => .ret (.c (.k .bool (T.beq t x y)))
     | .neq => .ret (.c (.k .bool !(T.beq t x y)))
     | _=> .no
   | _,_=> .no
 | _,_=> .no
section
variable {H:A2 T} {P:Program} {st:Az T} {key:List GL}
theorem Z1 (hw:BV H st) (hk:Fx H st.nx key) {c:Operand} {p:Bool} (hp:st.arg key c=some (.c (.k .bool p))) (w:Bool):Fx H st.nx (Sk key (WE st c) w p):=by
 unfold Sk
 split
 ·exact hk
 ·rename_i t ht
  intro l hl
  rcases List.mem_cons.1 hl with rfl | hl
  ·unfold WE at ht
   split at ht
   ·rename_i i
    split at ht
    ·rename_i hb
     obtain⟨h1,h2⟩:=ck hw.tm ht
     refine⟨h1,?_⟩
     show (p==w)=(jW (H.v t)==w)
     rw [h2]
     have e:st.ev (.tmp i)=lk st.tm i:=by show st.get i=_;unfold Az.get;rw [hb]
     unfold Az.arg at hp
     rw [e]at hp
     split at hp
     ·rename_i k v hv
      split at hp
      ·injection hp with hp;subst hp;rw [hv];rfl
      ·cases hp
     ·injection hp with hp;rw [hp];rfl
    ·cases ht
   ·cases ht
  ·exact hk l hl
theorem Ub {tc:Nat} {w p:Bool} (hc:Br key=true) (hp:p=w):Br (Sk key tc w p)=true:=by
 unfold Sk
 split
 ·exact hc
 ·refine HI.2 fun l hl=>?_
  rcases List.mem_cons.1 hl with rfl | hl
  ·simp [hp]
  ·exact HI.1 hc l hl
theorem Uc {v:DV T} {k:List GL} {q:Bool} (h:Sl v=some (k,q)):OU v.toV=some (Br k,q):=by
 unfold Sl at h
 split at h
 ·injection h with h;injection h with h1 h2;subst h1 h2;rfl
 ·injection h with h;injection h with h1 h2;subst h1 h2;rfl
 ·cases h
theorem Z2 {v:DV T} {k:List GL} {q:Bool} (h:Sl v=some (k,q)) {nx:Nat} (hv:v.ok H nx):Fx H nx k:=by
 unfold Sl at h
 split at h
 ·injection h with h;injection h with h1 h2;subst h1 h2;intro l hl;cases hl
 ·injection h with h;injection h with h1 h2;subst h1 h2
  simp only [DV.ok]at hv
  exact hv.1
 ·cases h
theorem qE (hw:BV H st) (hk:Fx H st.nx key) {c a b:Operand} {p:Bool} (hp:st.arg key c=some (.c (.k .bool p))):
 Yl (qz key (WE st c) p (st.ev a) (st.ev b)) (fun v=>Br key=true→v.ok H st.nx∧(VW p (st.toSt.ev a) (st.toSt.ev b)).1∧(VW p (st.toSt.ev a) (st.toSt.ev b)).2=v.toV):=by
 unfold qz
 split
 ·rename_i ka q kb r h1 h2
  split
  ·rename_i s1 s2
   refine Yl.ret fun hc=>⟨by simp only [DV.ok,DC.ok],?_⟩
   unfold VW
   rw [st.ev_toSt,st.ev_toSt,Uc h1,Uc h2]
   refine⟨⟨fun e=>Qb s1 (Z2 h1 (Az.ev_ok hw a)) (Z1 hw hk hp true) (Ub hc e),fun e=>Qb s2 (Z2 h2 (Az.ev_ok hw b)) (Z1 hw hk hp false) (Ub hc e)⟩,?_⟩
   rfl
  ·exact Yl.no
 ·exact Yl.no
theorem ND {op:BinOp} {b:Bool} {v:DC T} (h:oz op b=some v) {s:Prop} (hs:s):(Of op b s).1∧(Of op b s).2= .c v.toC∧v.ok:=by
 unfold oz at h
 split at h
 ·injection h with h;subst h;exact⟨hs,rfl,by simp only [DC.ok]⟩
 ·injection h with h;subst h;exact⟨hs,rfl,by simp only [DC.ok]⟩
 ·cases h
theorem m6 {lit:Bool} {p:Prop} [Decidable p] {v:DV T} (hl:lit=true→p):Yl (nd lit key p v) (fun r=>Br key=true→p∧r=v):=by
 unfold nd
 split
 ·exact Yl.ret fun _=>⟨hl rfl,rfl⟩
 ·exact Yl.opt fun u hu=>Yl.ret fun hc=>by
   have:=Ma (Wy hu hc)
   exact⟨this,rfl⟩
theorem qF {op:BinOp} {nz nn:Bool} {k:IntKind} {a b:Int} (h1:nz=true→b ≠ 0) (h2:nn=true→0≤b):Yl (qD (T:=T) op key nz nn k a b) (fun v=>Br key=true→(Iy op k a b).1∧v= .c (WF op k a b)):=by
 unfold qD
 split
 ·exact m6 h1
 ·exact m6 h1
 ·exact m6 h2
 ·exact m6 h2
 ·refine Yl.ret fun hc=>⟨?_,rfl⟩
  cases op<;>first | trivial | simp_all
def uM (nz nn:Bool) (y:DV T):Prop:= ∀ (k:IntKind) (b:Int),y= .c (.k (.int k) b)→(nz=true→b ≠ 0)∧(nn=true→0≤b)
theorem tv {op:BinOp} {t:TypeId} {kc nz nn:Bool} {x y:DV T} (hlit:uM nz nn y):
 Yl (vR P op t key kc nz nn x y) (fun v=>Br key=true→v.ok H st.nx∧(Ks P op t kc x.toV y.toV).1∧(Ks P op t kc x.toV y.toV).2=v.toV):=by
 unfold vR
 split
 ·rename_i k a k' b
  refine Yl.mIf fun hb=>?_
  have hb':=eY hb
  have key2:(Iy op k a b).1→(DV.c (WF (T:=T) op k a b)).ok H st.nx∧(Ks P op t kc (DV.c (T:=T) (.k (.int k) a)).toV (DV.c (T:=T) (.k (.int k') b)).toV).1∧(Ks P op t kc (DV.c (T:=T) (.k (.int k) a)).toV (DV.c (T:=T) (.k (.int k') b)).toV).2=(DV.c (WF (T:=T) op k a b)).toV :=by
   intro hi
   obtain⟨q1,q2⟩:=qA (T:=T) op k a b
   refine⟨by simpa only [DV.ok] using q2,?_⟩
   simp only [DV.toV,DC.toC,B7,Ks,UV,q1]
   exact⟨⟨hb',hi⟩,trivial⟩
  obtain⟨l1,l2⟩:=hlit k' b rfl
  exact(qF l1 l2).mono fun v hv hc=>by
   obtain⟨h1,h2⟩:=hv hc
   rw [h2]
   exact key2 h1
 ·rename_i a b
  unfold uK
  split
  ·refine Yl.opt fun s hs=>Yl.ret fun hc=>?_
   have:=Wy hs hc
   simp only [DV.ok,DC.ok,DV.toV,DC.toC,B7,Ks,UV,JC,true_and]
   exact⟨uC this,by rw [uD this]⟩
  ·rename_i hne
   split
   ·rename_i v hv
    refine Yl.ret fun hc=>?_
    unfold xD at hv
    split at hv<;>first
     | (injection hv with hv;subst hv;simp only [DV.ok,DC.ok,DV.toV,DC.toC,B7,Ks,UV,JC,and_self])
     | (cases hv;done)
   ·exact Yl.no
 ·rename_i a b
  refine Yl.mIf fun hb=>?_
  unfold uL
  split
  ·exact Yl.ret fun _=>⟨by simp only [DV.ok,DC.ok],hb,rfl⟩
  ·exact Yl.ret fun _=>⟨by simp only [DV.ok,DC.ok],hb,rfl⟩
  ·exact Yl.no
 ·refine Yl.mIf fun hb=>?_
  split
  ·rename_i v hv
   refine Yl.ret fun _=>?_
   simp only [Bool.and_eq_true]at hb
   obtain⟨a,b,c⟩:=ND (s:=kc=true∧Iz P t=true) hv hb
   exact⟨by simpa only [DV.ok] using c,a,by simp only [DV.toV];exact b⟩
  ·exact Yl.no
 ·refine Yl.mIf fun hb=>?_
  split
  ·rename_i v hv
   refine Yl.ret fun _=>?_
   obtain⟨a,b,c⟩:=ND (s:=Iz P t=true) hv hb
   exact⟨by simpa only [DV.ok] using c,a,by simp only [DV.toV];exact b⟩
  ·exact Yl.no
 ·refine Yl.mIf fun hb=>?_
  split
  ·rename_i v hv
   refine Yl.ret fun _=>?_
   obtain⟨a,b,c⟩:=ND (s:=TL P t=true) hv hb
   exact⟨by simpa only [DV.ok] using c,a,by simp only [DV.toV];exact b⟩
  ·exact Yl.no
 ·refine Yl.mIf fun hb=>?_
  split
  ·rename_i v hv
   refine Yl.ret fun _=>?_
   obtain⟨a,b,c⟩:=ND (s:=TL P t=true) hv hb
   exact⟨by simpa only [DV.ok] using c,a,by simp only [DV.toV];exact b⟩
  ·exact Yl.no
 ·rename_i cs ds
  split
  ·rename_i x y h1 h2
   refine Yl.mIf fun hb=>?_
   have e:T.beq t x y=BK (A1 cs) (A1 ds):=by rw [T.beqok,(HM h1).2 rfl,(HM h2).2 rfl]
   split
   ·refine Yl.ret fun _=>⟨by simp only [DV.ok,DC.ok],?_⟩
    simp only [DV.toV,DC.toC,B7,Ks,eN,e]
    exact⟨hb,trivial⟩
   ·refine Yl.ret fun _=>⟨by simp only [DV.ok,DC.ok],?_⟩
    simp only [DV.toV,DC.toC,B7,Ks,eN,e]
    exact⟨hb,trivial⟩
   ·exact Yl.no
  ·exact Yl.no
 ·exact Yl.no
end
end Go.PL
namespace Go.PL
open Go Go.RowKit
variable {T:C1}
def yZ (op:UnOp):DV T→M (DV T)
 | .c (.k (.int k) n)=>match op with
   | .neg => .ret (.c (.k (.int k) (k.wrap (0 - (show Int from n)))))
   | .xor => .ret (.c (.k (.int k) (jf k (if k.signed then -1 else k.max) n)))
   | _=> .no
 | .c (.k .bool b)=>match op with
   | .not => .ret (.c (.k .bool !(show Bool from b)))
   | _=> .no
 | _=> .no
def qG (P:Program) (src dst:TypeId):DV T→M (DV T)
 | .c (.k (.int _) n)=>match ep P dst with
   | some k=>mIf (sL P src) (.ret (.c (.k (.int k) (k.wrap n))))
   | none=> .no
 | .c (.k .str s)=>mIf (EJ P src&&EJ P dst) (.ret (.c (.k .str s)))
 | _=> .no
def tw (st:Az T) (key:List GL):Option Operand→Option (Option Int)
 | none=>some none
 | some x=>match st.arg key x with
   | some (.c (.k (.int _) n))=>some (some n)
   | _=>none
def uN (key:List GL) (s:List UInt8) (lo hi:Option Int):M (DV T):=
 .opt (gk key (ssub s (lo.getD 0) (hi.getD s.length))) fun r=> .ret (.c (.k .str r))
def uO (key:List GL) (E:Nat) (l:List (T.den E)) (lo hi:Option Int):M (DV T):=
 .opt (gk key (lsub l (lo.getD 0) (hi.getD l.length))) fun r=> .ret (.c (.k (.lst E) r))
def vT (P:Program) (t:TypeId) (key:List GL) (x:DV T) (lo hi:Option Int):M (DV T):=
 match x with
 | .c (.k .str s)=>mIf (EJ P t) (uN key s lo hi)
 | .c (.k (.lst E) l)=>match Em P t with
   | some (_,n)=>mIf (Nat.beq n (T.sz E)) (uO key E l lo hi)
   | none=> .no
 | _=> .no
def qH (P:Program) (s:TypeId) (f:Nat) (x:DV T):M (DV T):=
 match pJ P s f with
 | some (o,_,n)=>mIf (Nat.blt 0 n)<|match x with
   | .c (.c (.ptr id off))=> .ret (.c (.c (.ptr id (off+o))))
   | .c (.ip E l i x off)=> .ret (.c (.ip E l i x (off+o)))
   | .c (.rp id N i off)=> .ret (.c (.rp id N i (off+o)))
   | .c (.ap id base m E i off)=> .ret (.c (.ap id base m E i (off+o)))
   | _=> .no
 | none=> .no
def jY (P:Program) (t:TypeId) (f:Nat) (x:DV T):M (DV T):=
 match x with
 | .agg cs=>match pJ P t f with
   | some (o,ag,n)=>mIf (Mh ag o n cs.length) (.ret (HN ag o n cs))
   | none=> .no
 | _=> .no
def fJ (key:List GL) (E:Nat) (l:List (T.den E)) (i:Int) (f:T.den E→DV T):M (DV T):= .opt (gk key (idx l i)) fun x=> .ret (f x)
def vU (P:Program) (t:TypeId) (key:List GL) (st:Az T) (x y:DV T):M (DV T):=
 match y with
 | .c (.k (.int _) i)=>match x with
   | .c (.k (.lst E) l)=>match Em P t with
     | some (_,n)=>mIf (Nat.beq n (T.sz E)) (fJ key E l i fun x=> .c (.ip E l i x 0))
     | none=> .no
   | .c (.c (.osl id))=>match Em P t,Om st id with
     | some (_,n),some ⟨E,l⟩=>fJ key E l i fun _=> .c (.rp id n i 0)
     | _,_=> .no
   | .c (.c (.ptr id off))=>match F9 P t,Qd st id with
     | some (k,e,n),some cs=>match Kw e k (cs.drop off)with
       | some l=>mIf (Nat.beq n (T.sz e)&&Nat.ble off cs.length) (fJ key e l i fun _=> .c (.ap id off k e i 0))
       | none=> .no
     | _,_=> .no
   | _=> .no
 | _=> .no
def uP (key:List GL) (s:List UInt8) (i:Int):M (DV T):= .opt (gk key (sidx s i)) fun r=> .ret (.c (.k (.int .u8) r))
def qI (P:Program) (t:TypeId) (key:List GL) (x y:DV T):M (DV T):=
 match y with
 | .c (.k (.int _) i)=>match x with
   | .c (.k .str s)=>mIf (EJ P t) (uP key s i)
   | .agg cs=>match F9 P t with
     | some (k,e,n)=>match Oe P e,Kw e k cs with
       | some (ag,_),some l=>mIf (Nat.beq n (T.sz e)&&(Nat.blt 0 n&&Nat.beq cs.length (k*n))) (fJ key e l i fun x=>HN ag 0 n (jX e x))
       | _,_=> .no
     | none=> .no
   | _=> .no
 | _=> .no
def vV (i:Nat):DV T→M (DV T)
 | .tup vs=>mIf (Nat.blt i vs.length) (.ret (vs.getD i .u))
 | _=> .no
def qJ:DV T→M (DV T)
 | .c (.c (.ptr id off))=> .ret (.c (.c (.ptr id off)))
 | .c (.c (.fn f))=> .ret (.c (.c (.fn f)))
 | .c (.ip E l i x off)=> .ret (.c (.ip E l i x off))
 | .c (.rp id N i off)=> .ret (.c (.rp id N i off))
 | .c (.ap id b m E i off)=> .ret (.c (.ap id b m E i off))
 | .c (.clo b f cs)=> .ret (.c (.clo b f cs))
 | _=> .no
def vW (P:Program) (t:TypeId) (st:Az T) (x:DV T):M (DV T):=
 match x with
 | .c (.k .str s)=>mIf (EJ P t) (.ret (.c (.k (.int .i64) ((List.length (α:=UInt8) s:Nat):Int))))
 | .c (.k (.lst E) l)=>mIf (FW P t) (.ret (.c (.k (.int .i64) ((List.length (α:=T.den E) l:Nat):Int))))
 | .c (.c (.osl id))=>match Om st id with
   | some ⟨_,l⟩=>mIf (FW P t) (.ret (.c (.k (.int .i64) ((l.length:Nat):Int))))
   | none=> .no
 | .agg _=>match F9 P t with
   | some (k,_,_)=> .ret (.c (.k (.int .i64) ((k:Nat):Int)))
   | none=> .no
 | .c (.c (.ptr _ _))=>match F9 P t with
   | some (k,_,_)=> .ret (.c (.k (.int .i64) ((k:Nat):Int)))
   | none=> .no
 | _=> .no
def II (st:Az T) (key:List GL):List Operand→Option (List (DV T))
 | []=>some []
 | x::xs=>match st.arg key x,II st key xs with
   | some v,some vs=>some (v::vs)
   | _,_=>none
abbrev y4 (x:Int) (ys:List Int):Int:=ys.foldl (fun a y=>if y<a then y else a) x
abbrev y5 (x:Int) (ys:List Int):Int:=ys.foldl (fun a y=>if a<y then y else a) x
def uQ (k:IntKind) (x:Int) (ys:List Int):DV T:= .c (.k (.int k) (y4 x ys))
def uR (k:IntKind) (x:Int) (ys:List Int):DV T:= .c (.k (.int k) (y5 x ys))
def Ud:List (DV T)→Option (IntKind×Int×List Int)
 | [.c (.k (.int k) x)]=>some (k,x,[])
 | .c (.k (.int k) x)::vs=>match Ud vs with
   | some (_,y,ys)=>some (k,x,y::ys)
   | none=>none
 | _=>none
def jZ:Value→Option (DC T)
 | .int k n=>some (.k (.int k) n)
 | .bool b=>some (.k .bool b)
 | .string s=>some (.k .str s.data.toList)
 | v=>match V5 v with
   | some c=>some (.c c)
   | none=>none
def Qf:List Value→Option (List (DC T))
 | []=>some []
 | v::vs=>match jZ v,Qf vs with
   | some c,some cs=>some (c::cs)
   | _,_=>none
def cl (P:Program) (t:TypeId):Option (List (DC T)):=
 match P.info? t with
 | some i=>match i.zero with
   | some z=>Qf z.cells.toList
   | none=>none
 | none=>none
def DV.cells:DV T→Option (List (DC T))
 | .c x=>some [x]
 | .agg cs=>some cs
 | _=>none
def Z3 (place:Nat→Option (Nat×Nat)) (cells:List (DC T)):List (Nat×DV T)→Option (List (DC T))
 | []=>some cells
 | (i,v)::rest=>match place i,v.cells with
   | some (off,size),some cs=>match Nat.beq cs.length size&&Nat.ble (off+size) cells.length with
     | true=>Z3 place (cells.take off++(cs++cells.drop (off+size))) rest
     | false=>none
   | _,_=>none
def Sm (st:Az T) (key:List GL):List (Nat×Operand)→Option (List (Nat×DV T))
 | []=>some []
 | (i,x)::r=>match st.arg key x,Sm st key r with
   | some v,some vs=>some ((i,v)::vs)
   | _,_=>none
def Z4:List (DV T)→Option (List (DC T))
 | []=>some []
 | .c x::vs=>match Z4 vs with
   | some cs=>some (x::cs)
   | none=>none
 | _=>none
def j5 (P:Program) (t:TypeId) (key:List GL) (st:Az T) (ps:List (Nat×Operand)):M (DV T):=
 match cl P t,Sm st key ps with
 | some z,some vs=>match Z3 (xa P t) z vs with
   | some cs=>mIf (Oi P t) (.ret (.agg cs))
   | none=> .no
 | _,_=> .no
def Mi (P:Program) (key:List GL) (st:Az T):Op→M (DV T)
 | .move x=> .sm (st.arg key x)
 | .assign x=> .sm (st.arg key x)
 | .pick c a b=>match st.arg key c with
   | some (.c (.k .bool p))=>qz key (WE st c) p (st.ev a) (st.ev b)
   | _=> .no
 | .load t x=>match st.arg key x with
   | some v=>mZ P t key st v
   | none=> .no
 | .binOp op t x y _=>match st.arg key x,st.arg key y with
   | some u,some v=>vR P op t key (BQ x||BQ y) (qB y) (qC y) u v
   | _,_=> .no
 | .unOp op _ x=>match st.arg key x with
   | some v=>yZ op v
   | none=> .no
 | .convert src dst x=>match st.arg key x with
   | some v=>qG P src dst v
   | none=> .no
 | .slice t x lo hi none=>match st.arg key x,tw st key lo,tw st key hi with
   | some v,some l,some h=>vT P t key v l h
   | _,_,_=> .no
 | .fieldAddr s x f=>match st.arg key x with
   | some v=>qH P s f v
   | none=> .no
 | .field t x f=>match st.arg key x with
   | some v=>jY P t f v
   | none=> .no
 | .indexAddr t x i=>match st.arg key x,st.arg key i with
   | some u,some v=>vU P t key st u v
   | _,_=> .no
 | .index t x i=>match st.arg key x,st.arg key i with
   | some u,some v=>qI P t key u v
   | _,_=> .no
 | .extract x i=>match st.arg key x with
   | some v=>vV i v
   | none=> .no
 | .nilCheck x=>match st.arg key x with
   | some v=>qJ v
   | none=> .no
 | .build t ps=>j5 P t key st ps.toList
 | .makeFunc (.func f) ⟨[]⟩ caps=>match II st key caps.toList with
   | some vs=>match Z4 vs with
     | some cs=> .ret (.c (.clo false f cs))
     | none=> .no
   | none=> .no
 | .makeFunc (.func f) ⟨x::xs⟩ ⟨[]⟩=>match II st key (x::xs)with
   | some vs=>match Z4 vs with
     | some cs=> .ret (.c (.clo true f cs))
     | none=> .no
   | none=> .no
 | .call c=>match c.callee with
   | .builtin b=>match b,c.args.toList,c.argTypes.toList with
     | .len,[x],[t]=>match st.arg key x with
       | some v=>vW P t st v
       | none=> .no
     | .min,xs,_=>match II st key xs with
       | some vs=>match Ud vs with
         | some (k,x,ys)=> .ret (uQ k x ys)
         | none=> .no
       | none=> .no
     | .max,xs,_=>match II st key xs with
       | some vs=>match Ud vs with
         | some (k,x,ys)=> .ret (uR k x ys)
         | none=> .no
       | none=> .no
     | _,_,_=> .no
   | _=> .no
 | _=> .no
end Go.PL
namespace Go.PL
open Go Go.RowKit
variable {T:C1}
section
variable {H:A2 T} {P:Program} {st:Az T} {key:List GL}
theorem vY {op:UnOp} {x:DV T} {g:Prop} {nx:Nat}:Yl (yZ op x) (fun v=>g→v.ok H nx∧(sF op x.toV).1∧(sF op x.toV).2=v.toV):=by
 unfold yZ
 split
 ·split
  ·exact Yl.ret fun _=>⟨by simp only [DV.ok,DC.ok],trivial,rfl⟩
  ·exact Yl.ret fun _=>⟨by simp only [DV.ok,DC.ok],trivial,rfl⟩
  ·exact Yl.no
 ·split
  ·exact Yl.ret fun _=>⟨by simp only [DV.ok,DC.ok],trivial,rfl⟩
  ·exact Yl.no
 ·exact Yl.no
theorem qK {s d:TypeId} {x:DV T} {g:Prop} {nx:Nat} {z:St}:Yl (qG P s d x) (fun v=>g→v.ok H nx∧(IC P s d z x.toV).1∧(IC P s d z x.toV).2=v.toV):=by
 unfold qG
 split
 ·split
  ·rename_i k hk
   refine Yl.mIf fun hb=>Yl.ret fun _=>⟨by simp only [DV.ok,DC.ok],?_⟩
   simp only [DV.toV,DC.toC,B7,IC,hk]
   exact⟨hb,trivial⟩
  ·exact Yl.no
 ·refine Yl.mIf fun hb=>Yl.ret fun _=>⟨by simp only [DV.ok,DC.ok],?_⟩
  simp only [Bool.and_eq_true]at hb
  exact⟨hb,rfl⟩
 ·exact Yl.no
theorem NE (hw:BV H st) (hk:Fx H st.nx key) {x:Option Operand} {o:Option Int} (h:tw st key x=some o) (hc:Br key=true):
 (Cy st.toSt (Br key) x).1∧((o=none∧(Cy st.toSt (Br key) x).2=none)∨ ∃ k n,o=some n∧(Cy st.toSt (Br key) x).2=some (.c (.int k n))):=by
 unfold tw at h
 split at h
 ·injection h with h;subst h;exact⟨trivial, .inl ⟨rfl,rfl⟩⟩
 ·split at h
  ·rename_i y k n hy
   injection h with h;subst h
   obtain⟨_,a,b⟩:=Az.arg_spec hw hk hy hc
   exact⟨a, .inr ⟨k,n,rfl,by simp only [Cy,b];rfl⟩⟩
  ·cases h
theorem m7 {len:Nat} {lo hi:Option Int} {a b:Option V} (ha:(lo=none∧a=none)∨ ∃ k n,lo=some n∧a=some (.c (.int k n))) (hb:(hi=none∧b=none)∨ ∃ k n,hi=some n∧b=some (.c (.int k n))):
 Ys len a b=some (lo.getD 0,hi.getD len):=by
 rcases ha with ⟨rfl,rfl⟩ | ⟨k,n,rfl,rfl⟩<;>rcases hb with ⟨rfl,rfl⟩ | ⟨k',n',rfl,rfl⟩<;>rfl
theorem qM {s:List UInt8} {lo hi:Option Int}:Yl (uN (T:=T) key s lo hi) (fun v=>Br key=true→ ∃ r,ssub s (lo.getD 0) (hi.getD s.length)=some r∧v= .c (.k .str r)):=
 Yl.opt fun r hr=>Yl.ret fun hc=>⟨r,Wy hr hc,rfl⟩
theorem qO {E:Nat} {l:List (T.den E)} {lo hi:Option Int}:Yl (uO key E l lo hi) (fun v=>Br key=true→ ∃ r,lsub l (lo.getD 0) (hi.getD l.length)=some r∧v= .c (.k (.lst E) r)):=
 Yl.opt fun r hr=>Yl.ret fun hc=>⟨r,Wy hr hc,rfl⟩
theorem tx {t:TypeId} {x:DV T} {lo hi:Option Int} {a b:Option V} (ha:Br key=true→(lo=none∧a=none)∨ ∃ k n,lo=some n∧a=some (.c (.int k n))) (hb:Br key=true→(hi=none∧b=none)∨ ∃ k n,hi=some n∧b=some (.c (.int k n))) {nx:Nat}:
 Yl (vT P t key x lo hi) (fun v=>Br key=true→v.ok H nx∧(FA P t x.toV a b).1∧(FA P t x.toV a b).2=v.toV):=by
 unfold vT
 split
 ·rename_i s
  refine Yl.mIf fun hs=>qM.mono fun v hv hc=>?_
  obtain⟨r,h1,rfl⟩:=hv hc
  have hB:=m7 (len:=List.length (α:=UInt8) s) (ha hc) (hb hc)
  refine⟨by simp only [DV.ok,DC.ok],?_⟩
  simp only [DV.toV,DC.toC,B7,FA]
  erw [hB]
  exact⟨⟨hs,vy h1⟩,by rw [vz h1]⟩
 ·rename_i E l
  split
  ·rename_i e n hsel
   refine Yl.mIf fun hs=>qO.mono fun v hv hc=>?_
   obtain⟨r,h1,rfl⟩:=hv hc
   have hn:n=T.sz E:=Nat.eq_of_beq_eq_true hs
   subst hn
   have hB:=m7 (len:=List.length (α:=T.den E) l) (ha hc) (hb hc)
   refine⟨by simp only [DV.ok,DC.ok],?_⟩
   simp only [DV.toV,DC.toC,B7,FA,hsel]
   erw [hB]
   obtain⟨q1,q2,q3⟩:=ci h1
   refine⟨⟨q1,q2,q3,flat_len' (fun y=>FZ E y) l⟩,?_⟩
   exact vJ h1 (fun y=>FZ E y)
  ·exact Yl.no
 ·exact Yl.no
theorem qP {s:TypeId} {f:Nat} {x:DV T} {g:Prop} {nx:Nat} (hx:g→x.ok H nx):Yl (qH P s f x) (fun v=>g→v.ok H nx∧(BW P s f x.toV).1∧(BW P s f x.toV).2=v.toV):=by
 unfold qH
 split
 ·rename_i o ag n hf
  refine Yl.mIf fun hb=>?_
  have hb':0<n:=by simpa using hb
  split
  ·refine Yl.ret fun _=>⟨by simp only [DV.ok,DC.ok],?_⟩
   simp only [DV.toV,DC.toC,BW,hf];exact⟨hb',trivial⟩
  ·refine Yl.ret fun hg=>⟨by simpa only [DV.ok,DC.ok] using hx hg,?_⟩
   simp only [DV.toV,DC.toC,BW,hf,Nat.add_assoc];exact⟨hb',trivial⟩
  ·refine Yl.ret fun hg=>⟨by simp only [DV.ok,DC.ok],?_⟩
   simp only [DV.toV,DC.toC,BW,hf,Nat.add_assoc];exact⟨hb',trivial⟩
  ·refine Yl.ret fun hg=>⟨by simp only [DV.ok,DC.ok],?_⟩
   simp only [DV.toV,DC.toC,BW,hf,Nat.add_assoc];exact⟨hb',trivial⟩
  ·exact Yl.no
 ·exact Yl.no
theorem oA {t:TypeId} {f:Nat} {x:DV T} {g:Prop} {nx:Nat} (hx:g→x.ok H nx):Yl (jY P t f x) (fun v=>g→v.ok H nx∧(Hw P t f x.toV).1∧(Hw P t f x.toV).2=v.toV):=by
 unfold jY
 split
 ·split
  ·rename_i cs o ag n hf
   refine Yl.mIf fun hb=>Yl.ret fun hg=>⟨JK _ _ _ (by simpa only [DV.ok] using hx hg),?_⟩
   obtain⟨h1,h2⟩:=EN hb
   simp only [DV.toV,Hw,hf,JJ,Bf]
   exact⟨⟨h1,h2⟩,trivial⟩
  ·exact Yl.no
 ·exact Yl.no
theorem Qg {E:Nat} {l:List (T.den E)} {i:Int} {f:T.den E→DV T}:Yl (fJ key E l i f) (fun v=>Br key=true→ ∃ x,idx l i=some x∧v=f x):=
 Yl.opt fun r hr=>Yl.ret fun hc=>⟨r,Wy hr hc,rfl⟩
theorem tz {t:TypeId} {x y:DV T} {nx:Nat}:Yl (vU P t key st x y) (fun v=>Br key=true→v.ok H nx∧(B6 P t st.toSt x.toV y.toV).1∧(B6 P t st.toSt x.toV y.toV).2=v.toV):=by
 unfold vU
 split
 ·rename_i k i
  split
  ·rename_i E l
   split
   ·rename_i e n hs
    refine Yl.mIf fun hn=>Qg.mono fun v hv hc=>?_
    have hn:n=T.sz E:=Nat.eq_of_beq_eq_true hn
    subst hn
    obtain⟨x,h1,rfl⟩:=hv hc
    refine⟨by simpa only [DV.ok,DC.ok] using h1,?_⟩
    simp only [DV.toV,DC.toC,B7,B6,hs,Nat.add_zero]
    exact⟨BR h1,trivial⟩
   ·exact Yl.no
  ·rename_i id
   split
   ·rename_i e n E l hs hb
    refine Qg.mono fun v hv hc=>?_
    obtain⟨x,h1,rfl⟩:=hv hc
    refine⟨by simp only [DV.ok,DC.ok],?_⟩
    simp only [DV.toV,DC.toC,B7,B6,hs,(DJ hb).2.1,Nat.add_zero]
    exact⟨BR h1,trivial⟩
   ·exact Yl.no
  ·rename_i id off
   split
   ·rename_i m e n cs hs hb
    split
    ·rename_i l hl
     refine Yl.mIf fun hn=>Qg.mono fun v hv hc=>?_
     simp only [Bool.and_eq_true,Nat.beq_eq,Nat.ble_eq]at hn
     obtain⟨hn,_⟩:=hn
     subst hn
     obtain⟨x,h1,rfl⟩:=hv hc
     refine⟨by simp only [DV.ok,DC.ok],?_⟩
     simp only [DV.toV,DC.toC,B7,B6,hs,Nat.add_zero]
     have:=BR h1
     rw [(EM hl).1]at this
     exact⟨this,trivial⟩
    ·exact Yl.no
   ·exact Yl.no
  ·exact Yl.no
 ·exact Yl.no
theorem qQ {s:List UInt8} {i:Int}:Yl (uP (T:=T) key s i) (fun v=>Br key=true→ ∃ r,sidx s i=some r∧v= .c (.k (.int .u8) r)):=
 Yl.opt fun r hr=>Yl.ret fun hc=>⟨r,Wy hr hc,rfl⟩
theorem qS {t:TypeId} {x y:DV T} {nx:Nat}:Yl (qI P t key x y) (fun v=>Br key=true→v.ok H nx∧(GG P t x.toV y.toV).1∧(GG P t x.toV y.toV).2=v.toV):=by
 unfold qI
 split
 ·rename_i k i
  split
  ·rename_i s
   refine Yl.mIf fun hs=>qQ.mono fun v hv hc=>?_
   obtain⟨r,h1,rfl⟩:=hv hc
   refine⟨by simp only [DV.ok,DC.ok],?_⟩
   simp only [DV.toV,DC.toC,B7,GG]
   exact⟨⟨hs,vw h1⟩,by rw [vx h1]⟩
  ·rename_i cs
   split
   ·rename_i m e n hs
    split
    ·rename_i ag n' l ht hl
     refine Yl.mIf fun hn=>Qg.mono fun v hv hc=>?_
     simp only [Bool.and_eq_true,Nat.beq_eq,Nat.blt_eq]at hn
     obtain⟨hn,h0,hlen⟩:=hn
     subst hn
     obtain⟨x,h1,rfl⟩:=hv hc
     obtain⟨hl1,r,hl2⟩:=EM hl
     have:=qe (cs:=A1 cs) (pre:=[]) (post:=r) (base:=0) (e:=T.enc e) (N:=T.sz e) (o:=0) (n:=T.sz e) (ag:=ag) (v:=(HN (T:=T) ag 0 (T.sz e) (jX e x)).toV) (off:=i.toNat*T.sz e)
      (by rw [hl2];rfl) rfl h1 (fun y=>FZ e y) (by omega) (by omega) (.inr h0) (by rw [JJ,HL])
     refine⟨JK _ _ _ (Pc e x),?_⟩
     have hb:=BR h1
     rw [hl1]at hb
     simp only [DV.toV,DC.toC,B7,GG,hs,ht]
     exact⟨⟨hb.1,hb.2,this.1,h0⟩,this.2⟩
    ·exact Yl.no
   ·exact Yl.no
  ·exact Yl.no
 ·exact Yl.no
theorem Z5: ∀ (vs:List (DV T)) (i:Nat),(Bx vs).getD i .undef =(vs.getD i .u).toV
 | [],_=>by simp [Bx,DV.toV]
 | v::vs,0=>by simp [Bx]
 | v::vs,i+1=>by simpa [Bx] using Z5 vs i
theorem Gk (vs:List (DV T)):(Bx vs).length =vs.length:=by simp [Mf]
theorem tA {i:Nat} {x:DV T} {g:Prop} {nx:Nat} (hx:g→x.ok H nx):Yl (vV i x) (fun v=>g→v.ok H nx∧(nL i x.toV).1∧(nL i x.toV).2=v.toV):=by
 unfold vV
 split
 ·rename_i vs
  refine Yl.mIf fun hb=>Yl.ret fun hg=>⟨?_,?_⟩
  ·have:=hx hg
   simp only [DV.ok]at this
   rw [List.getD_eq_getElem?_getD]
   cases h:vs[i]? with
   | none=>simp [DV.ok]
   | some v=>exact HJ.1 this v (List.mem_of_getElem? h)
  ·simp only [DV.toV,nL,Z5,Gk]
   exact⟨by simpa using hb,trivial⟩
 ·exact Yl.no
theorem qT {x:DV T} {g:Prop} {nx:Nat} (hx:g→x.ok H nx):Yl (qJ x) (fun v=>g→v.ok H nx∧(UW x.toV).1∧(UW x.toV).2=v.toV):=by
 unfold qJ
 split
 ·exact Yl.ret fun hg=>⟨hx hg,trivial,rfl⟩
 ·exact Yl.ret fun hg=>⟨hx hg,trivial,rfl⟩
 ·exact Yl.ret fun hg=>⟨hx hg,by simp only [DV.toV,DC.toC,UW],by simp only [DV.toV,DC.toC,UW]⟩
 ·exact Yl.ret fun hg=>⟨hx hg,by simp only [DV.toV,DC.toC,UW],by simp only [DV.toV,DC.toC,UW]⟩
 ·exact Yl.ret fun hg=>⟨hx hg,by simp only [DV.toV,DC.toC,UW],by simp only [DV.toV,DC.toC,UW]⟩
 ·rename_i b f cs
  refine Yl.ret fun hg=>⟨hx hg,?_⟩
  cases b<;>simp only [DV.toV,DC.toC,UW]<;>exact⟨trivial,trivial⟩
 ·exact Yl.no
theorem tB {t:TypeId} {x:DV T} {nx:Nat} {g:Prop}:Yl (vW P t st x) (fun v=>g→v.ok H nx∧(OS P t st.toSt x.toV).1∧(OS P t st.toSt x.toV).2=v.toV):=by
 unfold vW
 split
 ·exact Yl.mIf fun hb=>Yl.ret fun _=>⟨by simp only [DV.ok,DC.ok],hb,rfl⟩
 ·exact Yl.mIf fun hb=>Yl.ret fun _=>⟨by simp only [DV.ok,DC.ok],hb,rfl⟩
 ·split
  ·rename_i id E l hr
   refine Yl.mIf fun hb=>Yl.ret fun _=>⟨by simp only [DV.ok,DC.ok],?_⟩
   simp only [DV.toV,DC.toC,B7,OS,(DJ hr).2.1]
   exact⟨hb,trivial⟩
  ·exact Yl.no
 ·split
  ·rename_i k e n ha
   refine Yl.ret fun _=>⟨by simp only [DV.ok,DC.ok],?_⟩
   simp only [DV.toV,DC.toC,B7,OS,ha]
   exact⟨trivial,trivial⟩
  ·exact Yl.no
 ·split
  ·rename_i k e n ha
   refine Yl.ret fun _=>⟨by simp only [DV.ok,DC.ok],?_⟩
   simp only [DV.toV,DC.toC,B7,OS,ha]
   exact⟨trivial,trivial⟩
  ·exact Yl.no
 ·exact Yl.no
theorem C6 (hw:BV H st) (hk:Fx H st.nx key) (hc:Br key=true): ∀ {xs:List Operand} {vs:List (DV T)},II st key xs=some vs→
 Dg H st.nx vs∧(st.toSt.args (Br key) xs).1∧(st.toSt.args (Br key) xs).2=Bx vs
 | [],vs,h=>by simp [II]at h;subst h;simp [Dg,St.args,Bx]
 | x::xs,vs,h=>by
   unfold II at h
   split at h
   ·rename_i v vs' h1 h2
    injection h with h;subst h
    obtain⟨a,b,c⟩:=Az.arg_spec hw hk h1 hc
    obtain⟨a',b',c'⟩:=C6 hw hk hc h2
    simp only [Dg,St.args,Bx,c,c']
    exact⟨⟨a,a'⟩,⟨b,b'⟩,trivial⟩
   ·cases h
theorem Pd: ∀ {vs:List (DV T)} {r:IntKind×Int×List Int},Ud vs=some r→GH (Bx vs)=some r
 | [],_,h=>by simp [Ud]at h
 | [v],r,h=>by
   unfold Ud at h
   split at h
   ·rename_i k x he
    injection he with he;subst he
    injection h with h;subst h
    rfl
   ·rename_i k x vs' hne he
    injection he with h1 h2
    subst h2
    simp [Ud]at h
   ·cases h
 | v::v'::vs,r,h=>by
   unfold Ud at h
   split at h
   ·rename_i he;cases he
   ·rename_i k x vs' _ he
    injection he with h1 h2
    subst h1 h2
    split at h
    ·rename_i k' y ys h3
     injection h with h;subst h
     have:=Pd h3
     have h4: ∀ z:Int,Bx (DV.c (T:=T) (.k (.int k) z)::v'::vs)= .c (.int k z)::v'.toV::Bx vs:=fun z=>by simp only [Bx,DV.toV,DC.toC,B7]
     have h5:Bx (v'::vs)=v'.toV::Bx vs:=by simp only [Bx]
     rw [h5]at this
     refine(congrArg GH (h4 x)).trans ?_
     simp only [GH,this]
    ·cases h
   ·cases h
theorem fK {v:Value} {c:DC T} (h:jZ v=some c):V5 v=some c.toC∧c.ok:=by
 unfold jZ at h
 split at h
 ·injection h with h;subst h;exact⟨rfl,by simp only [DC.ok]⟩
 ·injection h with h;subst h;exact⟨rfl,by simp only [DC.ok]⟩
 ·injection h with h;subst h;exact⟨rfl,by simp only [DC.ok]⟩
 ·split at h
  ·rename_i c' hc
   injection h with h;subst h
   exact⟨by rw [hc];simp only [DC.toC],by simp only [DC.ok]⟩
  ·cases h
theorem Qh: ∀ {vs:List Value} {cs:List (DC T)},Qf vs=some cs→GX vs=some (A1 cs)∧Ci cs
 | [],cs,h=>by simp [Qf]at h;subst h;simp [GX,A1,Ci]
 | v::vs,cs,h=>by
   unfold Qf at h
   split at h
   ·rename_i c cs' h1 h2
    injection h with h;subst h
    obtain⟨a,b⟩:=fK h1
    obtain⟨a',b'⟩:=Qh h2
    simp [GX,a,a',A1,Ci,b,b']
   ·cases h
theorem Ue {t:TypeId} {cs:List (DC T)} (h:cl P t=some cs):TS P t=some (A1 cs)∧Ci cs:=by
 unfold cl at h
 unfold TS
 split at h
 ·rename_i i hi
  split at h
  ·rename_i z hz
   simp only [hi,hz]
   exact Qh h
  ·cases h
 ·cases h
theorem DV.cells_spec {v:DV T} {cs:List (DC T)} (h:v.cells=some cs):v.toV.cells=some (A1 cs)∧(∀ {H:A2 T} {nx:Nat},v.ok H nx→Ci cs):=by
 unfold DV.cells at h
 split at h
 ·injection h with h;subst h;exact⟨by simp [DV.toV,V.cells,A1],fun hv=>by simpa [Ci,DV.ok] using hv⟩
 ·injection h with h;subst h;exact⟨by simp [DV.toV,V.cells],fun hv=>by simpa only [DV.ok] using hv⟩
 ·cases h
def tC (l:List (Nat×DV T)):List (Nat×V):=l.map fun x=>(x.1,x.2.toV)
theorem Mj (hw:BV H st) (hk:Fx H st.nx key) (hc:Br key=true): ∀ {ps:List (Nat×Operand)} {vs:List (Nat×DV T)},Sm st key ps=some vs→
 (∀ x∈vs,x.2.ok H st.nx)∧(st.toSt.parts (Br key) ps).1∧(st.toSt.parts (Br key) ps).2=tC vs
 | [],vs,h=>by simp [Sm]at h;subst h;simp [St.parts,tC]
 | (i,x)::r,vs,h=>by
   unfold Sm at h
   split at h
   ·rename_i v vs' h1 h2
    injection h with h;subst h
    obtain⟨a,b,c⟩:=Az.arg_spec hw hk h1 hc
    obtain⟨a',b',c'⟩:=Mj hw hk hc h2
    simp only [St.parts,tC,c,c',List.map_cons]
    refine⟨fun y hy=>?_,⟨b,b'⟩,trivial⟩
    rcases List.mem_cons.1 hy with rfl | hy
    ·exact a
    ·exact a' y hy
   ·cases h
theorem Pe {place:Nat→Option (Nat×Nat)}: ∀ {vs:List (Nat×DV T)} {cells cs:List (DC T)},Z3 place cells vs=some cs→
 Hz place (A1 cells) (tC vs)=some (A1 cs)∧ ∀ {H:A2 T} {nx:Nat},Ci cells→(∀ x∈vs,x.2.ok H nx)→Ci cs
 | [],cells,cs,h=>by simp [Z3]at h;subst h;exact⟨rfl,fun hc _=>hc⟩
 | (i,v)::rest,cells,cs,h=>by
   unfold Z3 at h
   split at h
   ·rename_i off size ds h1 h2
    split at h
    ·rename_i hb
     simp only [Bool.and_eq_true,Nat.beq_eq,Nat.ble_eq]at hb
     obtain⟨a,b⟩:=DV.cells_spec h2
     obtain⟨a',b'⟩:=Pe h
     refine⟨?_,fun hc hv=>b' (CI (NB hc _) (CI (b (hv (i,v) (by simp))) (NC hc _))) (fun x hx=>hv x (by simp [hx]))⟩
     simp only [tC,List.map_cons,Hz,h1,a]
     rw [if_pos (by rw [Bf,Bf];exact hb)]
     rw [←a',B2,B2,Hh,EL,List.append_assoc]
     rfl
    ·cases h
   ·cases h
theorem Pf: ∀ {vs:List (DV T)} {cs:List (DC T)},Z4 vs=some cs→bM (Bx vs)=some (A1 cs)∧ ∀ {H:A2 T} {nx:Nat},Dg H nx vs→Ci cs
 | [],cs,h=>by simp [Z4]at h;subst h;exact⟨by simp [Bx,bM,A1],fun _=>by simp [Ci]⟩
 | v::vs,cs,h=>by
   unfold Z4 at h
   split at h
   ·cases ‹_=([]:List (DV T))›
   ·rename_i x vs' he
    injection he with h1 h2;subst h1 h2
    split at h
    ·rename_i cs' hcs
     injection h with h;subst h
     obtain⟨a,b⟩:=Pf hcs
     refine⟨by simp [Bx,DV.toV,bM,a,A1],fun hv=>?_⟩
     simp only [Dg,DV.ok]at hv
     simp only [Ci]
     exact⟨hv.1,b hv.2⟩
    ·cases h
   ·cases h
theorem oB (hw:BV H st) (hk:Fx H st.nx key) {t:TypeId} {ps:List (Nat×Operand)}:
 Yl (j5 P t key st ps) (fun v=>Br key=true→v.ok H st.nx∧(LY P st.toSt (Br key) t ps).1∧(LY P st.toSt (Br key) t ps).2=v.toV):=by
 unfold j5
 split
 ·rename_i z vs hz hp
  split
  ·rename_i cs hf
   refine Yl.mIf fun ho=>Yl.ret fun hc=>?_
   obtain⟨a,b⟩:=Ue hz
   obtain⟨p1,p2,p3⟩:=Mj hw hk hc hp
   obtain⟨q1,q2⟩:=Pe hf
   refine⟨by simp only [DV.ok];exact q2 b p1,?_⟩
   simp only [LY,a,p3,q1,DV.toV]
   exact⟨⟨p2,ho⟩,trivial⟩
  ·exact Yl.no
 ·exact Yl.no
theorem qU {y:Operand} {v:DV T} (h:st.arg key y=some v):uM (qB y) (qC y) v:=by
 intro k b hv
 subst hv
 have hc: ∀ (k':IntKind) (n:Int),y= .const (.int k' n)→b=n:=by
  intro k' n e
  subst e
  unfold Az.arg at h
  simp only [Az.ev,Sh,T8,Option.some.injEq,DV.c.injEq]at h
  injection h with h1 h2
  injection h1 with h1
  subst h1
  exact h2.symm
 constructor
 ·intro h1
  unfold qB at h1
  split at h1
  ·rename_i k' n
   rw [hc k' n rfl]
   simpa using h1
  ·cases h1
 ·intro h1
  unfold qC at h1
  split at h1
  ·rename_i k' n
   rw [hc k' n rfl]
   simpa using h1
  ·cases h1
theorem Qi (hw:BV H st) (hk:Fx H st.nx key) (op:Op):Yl (Mi P key st op) (Rd H P st key op):=by
 have A: ∀ {x:Operand} {v:DV T},st.arg key x=some v→Br key=true→v.ok H st.nx∧(st.toSt.arg (Br key) x).1∧(st.toSt.arg (Br key) x).2=v.toV:=fun h hc=>Az.arg_spec hw hk h hc
 unfold Mi
 split
 ·exact Yl.sm fun v hv hc=>A hv hc
 ·exact Yl.sm fun v hv hc=>A hv hc
 ·rename_i c a b
  split
  ·rename_i p hp
   refine(qE hw hk hp).mono fun v hv hc=>?_
   obtain⟨q0,q1,q2⟩:=hv hc
   obtain⟨_,k1,k2⟩:=A hp hc
   simp only [DV.toV,DC.toC,B7]at k2
   refine⟨q0,?_⟩
   simp only [El,rd,bnd,k2]
   exact⟨⟨k1,q1⟩,q2⟩
  ·exact Yl.no
 ·rename_i t x
  split
  ·rename_i v hx
   refine(fI hw (fun hc=>(A hx hc).1)).mono fun r hr hc=>?_
   obtain⟨q0,q1,q2⟩:=hr hc
   obtain⟨_,k1,k2⟩:=A hx hc
   refine⟨q0,?_⟩
   simp only [El,rd,bnd,k2]
   exact⟨⟨k1,q1⟩,q2⟩
  ·exact Yl.no
 ·rename_i op t x y ty
  split
  ·rename_i u v hx hy
   refine(tv (H:=H) (st:=st) (qU hy)).mono fun r hr hc=>?_
   obtain⟨q0,q1,q2⟩:=hr hc
   obtain⟨_,k1,k2⟩:=A hx hc
   obtain⟨_,k3,k4⟩:=A hy hc
   refine⟨q0,?_⟩
   have e:El P st.toSt (Br key) (.binOp op t x y ty)=((st.toSt.arg (Br key) x).1∧(st.toSt.arg (Br key) y).1∧(Ks P op t (BQ x||BQ y) (st.toSt.arg (Br key) x).2 (st.toSt.arg (Br key) y).2).1,(Ks P op t (BQ x||BQ y) (st.toSt.arg (Br key) x).2 (st.toSt.arg (Br key) y).2).2):=by
    simp only [El]
    unfold Ks
    split
    ·rename_i cs ds e1 e2;simp only [e1,e2]
    ·rename_i hne
     split
     ·rename_i cs ds e1 e2;exact(hne cs ds e1 e2).elim
     ·rfl
   rw [e,k2,k4]
   exact⟨⟨k1,k3,q1⟩,q2⟩
  ·exact Yl.no
 ·rename_i op t x
  split
  ·rename_i v hx
   refine(vY (H:=H) (g:=Br key=true) (nx:=st.nx)).mono fun r hr hc=>?_
   obtain⟨q0,q1,q2⟩:=hr hc
   obtain⟨_,k1,k2⟩:=A hx hc
   refine⟨q0,?_⟩
   simp only [El,rd,bnd,k2]
   exact⟨⟨k1,q1⟩,q2⟩
  ·exact Yl.no
 ·rename_i s d x
  split
  ·rename_i v hx
   refine(qK (H:=H) (g:=Br key=true) (nx:=st.nx) (z:=st.toSt)).mono fun r hr hc=>?_
   obtain⟨q0,q1,q2⟩:=hr hc
   obtain⟨_,k1,k2⟩:=A hx hc
   refine⟨q0,?_⟩
   simp only [El,rd,bnd,k2]
   exact⟨⟨k1,q1⟩,q2⟩
  ·exact Yl.no
 ·rename_i t x lo hi
  split
  ·rename_i v l h hx hl hh
   refine(tx (H:=H) (nx:=st.nx) (a:=(Cy st.toSt (Br key) lo).2) (b:=(Cy st.toSt (Br key) hi).2) (fun hc=>(NE hw hk hl hc).2) (fun hc=>(NE hw hk hh hc).2)).mono fun r hr hc=>?_
   obtain⟨q0,q1,q2⟩:=hr hc
   obtain⟨_,k1,k2⟩:=A hx hc
   refine⟨q0,?_⟩
   simp only [El,rd,bnd,k2]
   exact⟨⟨k1,(NE hw hk hl hc).1,(NE hw hk hh hc).1,q1⟩,q2⟩
  ·exact Yl.no
 ·rename_i s x f
  split
  ·rename_i v hx
   refine(qP (H:=H) (g:=Br key=true) (nx:=st.nx) (fun hc=>(A hx hc).1)).mono fun r hr hc=>?_
   obtain⟨q0,q1,q2⟩:=hr hc
   obtain⟨_,k1,k2⟩:=A hx hc
   refine⟨q0,?_⟩
   simp only [El,rd,bnd,k2]
   exact⟨⟨k1,q1⟩,q2⟩
  ·exact Yl.no
 ·rename_i t x f
  split
  ·rename_i v hx
   refine(oA (H:=H) (g:=Br key=true) (nx:=st.nx) (fun hc=>(A hx hc).1)).mono fun r hr hc=>?_
   obtain⟨q0,q1,q2⟩:=hr hc
   obtain⟨_,k1,k2⟩:=A hx hc
   refine⟨q0,?_⟩
   simp only [El,rd,bnd,k2]
   exact⟨⟨k1,q1⟩,q2⟩
  ·exact Yl.no
 ·rename_i t x y
  split
  ·rename_i u v hx hy
   refine(tz (H:=H) (nx:=st.nx)).mono fun r hr hc=>?_
   obtain⟨q0,q1,q2⟩:=hr hc
   obtain⟨_,k1,k2⟩:=A hx hc
   obtain⟨_,k3,k4⟩:=A hy hc
   refine⟨q0,?_⟩
   simp only [El,rd,bnd,k2,k4]
   exact⟨⟨k1,k3,q1⟩,q2⟩
  ·exact Yl.no
 ·rename_i t x y
  split
  ·rename_i u v hx hy
   refine(qS (H:=H) (nx:=st.nx)).mono fun r hr hc=>?_
   obtain⟨q0,q1,q2⟩:=hr hc
   obtain⟨_,k1,k2⟩:=A hx hc
   obtain⟨_,k3,k4⟩:=A hy hc
   refine⟨q0,?_⟩
   simp only [El,rd,bnd,k2,k4]
   exact⟨⟨k1,k3,q1⟩,q2⟩
  ·exact Yl.no
 ·rename_i x i
  split
  ·rename_i v hx
   refine(tA (H:=H) (g:=Br key=true) (nx:=st.nx) (fun hc=>(A hx hc).1)).mono fun r hr hc=>?_
   obtain⟨q0,q1,q2⟩:=hr hc
   obtain⟨_,k1,k2⟩:=A hx hc
   refine⟨q0,?_⟩
   simp only [El,rd,bnd,k2]
   exact⟨⟨k1,q1⟩,q2⟩
  ·exact Yl.no
 ·rename_i x
  split
  ·rename_i v hx
   refine(qT (H:=H) (g:=Br key=true) (nx:=st.nx) (fun hc=>(A hx hc).1)).mono fun r hr hc=>?_
   obtain⟨q0,q1,q2⟩:=hr hc
   obtain⟨_,k1,k2⟩:=A hx hc
   refine⟨q0,?_⟩
   simp only [El,rd,bnd,k2]
   exact⟨⟨k1,q1⟩,q2⟩
  ·exact Yl.no
 ·exact oB hw hk
 ·rename_i f caps
  split
  ·rename_i vs hvs
   split
   ·rename_i cs hcs
    refine Yl.ret fun hc=>?_
    obtain⟨a,b,c⟩:=C6 hw hk hc hvs
    obtain⟨d,e⟩:=Pf hcs
    refine⟨by simp only [DV.ok,DC.ok];exact e a,?_⟩
    simp only [El,c,d,DV.toV,DC.toC]
    exact⟨b,trivial⟩
   ·exact Yl.no
  ·exact Yl.no
 ·rename_i f x xs
  split
  ·rename_i vs hvs
   split
   ·rename_i cs hcs
    refine Yl.ret fun hc=>?_
    obtain⟨a,b,c⟩:=C6 hw hk hc hvs
    obtain⟨d,e⟩:=Pf hcs
    refine⟨by simp only [DV.ok,DC.ok];exact e a,?_⟩
    simp only [El,c,d,DV.toV,DC.toC]
    exact⟨b,trivial⟩
   ·exact Yl.no
  ·exact Yl.no
 ·rename_i c
  split
  ·rename_i b hb
   split
   ·rename_i x t h1 h2
    split
    ·rename_i v hx
     refine(tB (H:=H) (g:=Br key=true) (nx:=st.nx)).mono fun r hr hc=>?_
     obtain⟨q0,q1,q2⟩:=hr hc
     obtain⟨_,k1,k2⟩:=A hx hc
     refine⟨q0,?_⟩
     simp only [El,rd,hb,h1,h2,OV,bnd,k2]
     exact⟨⟨k1,q1⟩,q2⟩
    ·exact Yl.no
   ·split
    ·rename_i vs hvs
     split
     ·rename_i k x ys hi
      refine Yl.ret fun hc=>?_
      obtain⟨a,b',c'⟩:=C6 hw hk hc hvs
      refine⟨by simp only [uQ,DV.ok,DC.ok],?_⟩
      simp only [El,rd,hb,OV,c',jk,Pd hi]
      exact⟨⟨b',trivial⟩,rfl⟩
     ·exact Yl.no
    ·exact Yl.no
   ·split
    ·rename_i vs hvs
     split
     ·rename_i k x ys hi
      refine Yl.ret fun hc=>?_
      obtain⟨a,b',c'⟩:=C6 hw hk hc hvs
      refine⟨by simp only [uR,DV.ok,DC.ok],?_⟩
      simp only [El,rd,hb,OV,c',jl,Pd hi]
      exact⟨⟨b',trivial⟩,rfl⟩
     ·exact Yl.no
    ·exact Yl.no
   ·exact Yl.no
  ·exact Yl.no
 ·exact Yl.no
end
end Go.PL
namespace Go.PL
open Go Go.RowKit
variable {T:C1}
def Az.put (st:Az T) (d:Option Nat) (v:DV T):Az T:=match d with
 | some d=>{st with tm:=(d,st.nx,v)::st.tm,nx:=st.nx+1}
 | none=>st
theorem fL (m d t:Nat) (v:DV T) (tm:Tm T):Bv m ((d,t,v)::tm)=(Bv m tm).set d v.toV:=by
 apply List.ext_getElem?
 intro i
 unfold Bv
 rw [List.getElem?_set]
 simp only [List.getElem?_map,List.length_map,List.length_range]
 by_cases hi:i<m
 ·rw [List.getElem?_range hi]
  simp only [Option.map_some,lk]
  by_cases hd:d=i
  ·subst hd
   simp [hi]
  ·have:Nat.beq d i=false:=by
    cases h:Nat.beq d i
    ·rfl
    ·exact absurd (Nat.eq_of_beq_eq_true h) hd
   simp [hd,this]
 ·rw [List.getElem?_eq_none (by simpa using hi)]
  by_cases hd:d=i
  ·subst hd;simp [hi]
  ·simp [hd]
theorem Az.put_toSt (st:Az T) (d:Option Nat) (v:DV T):(st.put d v).toSt =st.toSt.put d v.toV:=by
 cases d with
 | none=>rfl
 | some d=>simp only [Az.put,Az.toSt,St.put,fL]
def A2.setV (H:A2 T) (t:Nat) (v:DV T):A2 T:=⟨fun i=>if i=t then v else H.v i,H.e⟩
def A2.setE (H:A2 T) (t:Nat) (e:DE T):A2 T:=⟨H.v,fun i=>if i=t then e else H.e i⟩
theorem C5.setV (H:A2 T) (t:Nat) (v:DV T):C5 t H (H.setV t v):=fun i hi=>⟨by simp only [A2.setV];rw [if_neg (by omega)],rfl⟩
theorem C5.setE (H:A2 T) (t:Nat) (e:DE T):C5 t H (H.setE t e):=fun i hi=>⟨rfl,by simp only [A2.setE];rw [if_neg (by omega)]⟩
structure Nx (H:A2 T) (st:Az T) (H':A2 T) (st':Az T):Prop where
 ext:C5 st.nx H H'
 le:st.nx≤st'.nx
 ok:BV H' st'
theorem Nx.refl {H:A2 T} {st:Az T} (h:BV H st):Nx H st H st:=⟨C5.refl _ _,Nat.le_refl _,h⟩
theorem Nx.trans {H H' H'':A2 T} {a b c:Az T} (h:Nx H a H' b) (k:Nx H' b H'' c):Nx H a H'' c:=⟨h.ext.trans k.ext h.le,Nat.le_trans h.le k.le,k.ok⟩
theorem EV {H H':A2 T} {n m:Nat} (he:C5 n H H') (hnm:n≤m) {l:List (DE T)} (h: ∀ e∈l,e.tag<n∧H.e e.tag=e∧e.x.ok): ∀ e∈l,e.tag<m∧H'.e e.tag=e∧e.x.ok:=fun e hm=>by
 obtain⟨a,b,c⟩:=h e hm
 exact⟨Nat.lt_of_lt_of_le a hnm,by rw [(he e.tag a).2];exact b,c⟩
theorem Az.put_nx {H:A2 T} {st:Az T} (h:BV H st) (d:Option Nat) {v:DV T} (hv:v.ok H st.nx): ∃ H',Nx H st H' (st.put d v):=by
 cases d with
 | none=>exact⟨H,Nx.refl h⟩
 | some d=>
   have he:=C5.setV H st.nx v
   refine⟨H.setV st.nx v,he,by simp [Az.put],?_,?_,?_,h.nd⟩
   ·intro s t w hm
    simp only [Az.put]at hm ⊢
    rcases List.mem_cons.1 hm with hm | hm
    ·injection hm with h1 hm;injection hm with h2 h3;subst h1 h2 h3
     exact⟨Nat.lt_succ_self _,by simp [A2.setV],DV.ok_ext he (Nat.le_succ _) hv⟩
    ·exact Cc he (Nat.le_succ _) h.tm s t w hm
   ·intro f hf
    exact Cc he (Nat.le_succ _) (h.gh f hf)
   ·exact EV he (Nat.le_succ _) h.so
def WG (p:DV T→Bool) (f:DV T→DV T):Nat→Tm T→Tm T
 | _,[]=>[]
 | n,(s,t,v)::r=>match p v with
   | true=>(s,n,f v)::WG p f (n+1) r
   | false=>(s,t,v)::WG p f (n+1) r
def j6 (p:DV T→Bool) (f:DV T→DV T):Nat→List (Nat×Tm T)→List (Nat×Tm T)
 | _,[]=>[]
 | n,(m,tm)::r=>(m,WG p f n tm)::j6 p f (n+tm.length) r
def Qj:List (Nat×Tm T)→Nat
 | []=>0
 | (_,tm)::r=>tm.length+Qj r
def Yy (q:DX T→Bool) (g:DX T→DX T):Nat→List (DE T)→List (DE T)
 | _,[]=>[]
 | n,e::r=>match q e.x with
   | true=>⟨e.id,n,g e.x⟩::Yy q g (n+1) r
   | false=>e::Yy q g (n+1) r
def Az.remap (p:DV T→Bool) (f:DV T→DV T) (q:DX T→Bool) (g:DX T→DX T) (st:Az T):Az T:=
 {st with tm:=WG p f st.nx st.tm,gh:=j6 p f (st.nx+st.tm.length) st.gh,so:=Yy q g (st.nx+st.tm.length+Qj st.gh) st.so,nx:=st.nx+st.tm.length+Qj st.gh+st.so.length}
section
variable {p:DV T→Bool} {f:DV T→DV T} {q:DX T→Bool} {g:DX T→DX T}
theorem VE (hf: ∀ {H:A2 T} {n:Nat} {v:DV T},v.ok H n→(f v).ok H n): ∀ (tm:Tm T) (n:Nat) (H:A2 T),Pb H n tm→ ∃ H',C5 n H H'∧Pb H' (n+tm.length) (WG p f n tm)
 | [],n,H,_=>⟨H,C5.refl _ _,fun _ _ _ h=>by cases h⟩
 | (s,t,v)::r,n,H,h=>by
   obtain⟨a,b,c⟩:=h s t v (by simp)
   have hr:Pb H n r:=fun s' t' v' hm=>h s' t' v' (by simp [hm])
   unfold WG
   split
   ·have he:=C5.setV H n (f v)
    obtain⟨H',h1,h2⟩:=VE hf r (n+1) (H.setV n (f v)) (Cc he (Nat.le_succ _) hr)
    refine⟨H',he.trans h1 (Nat.le_succ _),fun s' t' v' hm=>?_⟩
    rw [show n+((s,t,v)::r).length =n+1+r.length by simp;omega]
    rcases List.mem_cons.1 hm with hm | hm
    ·injection hm with e1 hm;injection hm with e2 e3;subst e1 e2 e3
     refine⟨by omega,?_,DV.ok_ext (he.trans h1 (Nat.le_succ _)) (by omega) (hf c)⟩
     rw [(h1 t' (by omega)).1];simp [A2.setV]
    ·exact h2 s' t' v' hm
   ·obtain⟨H',h1,h2⟩:=VE hf r (n+1) H (Cc (C5.refl _ _) (Nat.le_succ _) hr)
    have h1':C5 n H H':=fun i hi=>h1 i (by omega)
    refine⟨H',h1',fun s' t' v' hm=>?_⟩
    rw [show n+((s,t,v)::r).length =n+1+r.length by simp;omega]
    rcases List.mem_cons.1 hm with hm | hm
    ·injection hm with e1 hm;injection hm with e2 e3;subst e1 e2 e3
     refine⟨by omega,?_,DV.ok_ext h1' (by omega) c⟩
     rw [(h1' t' a).1];exact b
    ·exact h2 s' t' v' hm
theorem m8 (hf: ∀ {H:A2 T} {n:Nat} {v:DV T},v.ok H n→(f v).ok H n): ∀ (l:List (Nat×Tm T)) (n:Nat) (H:A2 T),(∀ x∈l,Pb H n x.2)→ ∃ H',C5 n H H'∧ ∀ x∈j6 p f n l,Pb H' (n+Qj l) x.2
 | [],n,H,_=>⟨H,C5.refl _ _,fun _ h=>by cases h⟩
 | (m,tm)::r,n,H,h=>by
   obtain⟨H1,a,b⟩:=VE (p:=p) hf tm n H (h (m,tm) (by simp))
   obtain⟨H2,c,d⟩:=m8 hf r (n+tm.length) H1 (fun x hx=>Cc a (by omega) (h x (by simp [hx])))
   refine⟨H2,a.trans c (by omega),fun x hx=>?_⟩
   have e:n+Qj ((m,tm)::r)=n+tm.length+Qj r:=by simp [Qj];omega
   rw [e]
   rcases List.mem_cons.1 hx with rfl | hx
   ·exact Cc c (by omega) b
   ·exact d x hx
theorem cm (hg: ∀ {x:DX T},x.ok→(g x).ok): ∀ (l:List (DE T)) (n:Nat) (H:A2 T),(∀ e∈l,e.tag<n∧H.e e.tag=e∧e.x.ok)→ ∃ H',C5 n H H'∧ ∀ e∈Yy q g n l,e.tag<n+l.length∧H'.e e.tag=e∧e.x.ok
 | [],n,H,_=>⟨H,C5.refl _ _,fun _ h=>by cases h⟩
 | e::r,n,H,h=>by
   obtain⟨a,b,c⟩:=h e (by simp)
   have hr: ∀ e∈r,e.tag<n∧H.e e.tag=e∧e.x.ok:=fun e hm=>h e (by simp [hm])
   unfold Yy
   split
   ·have he:=C5.setE H n ⟨e.id,n,g e.x⟩
    obtain⟨H',h1,h2⟩:=cm hg r (n+1) (H.setE n ⟨e.id,n,g e.x⟩) (EV he (Nat.le_succ _) hr)
    refine⟨H',he.trans h1 (Nat.le_succ _),fun x hm=>?_⟩
    rw [show n+(e::r).length =n+1+r.length by simp;omega]
    rcases List.mem_cons.1 hm with rfl | hm
    ·refine⟨by simp only;omega,?_,hg c⟩
     simp only
     rw [(h1 n (by omega)).2];simp [A2.setE]
    ·exact h2 x hm
   ·obtain⟨H',h1,h2⟩:=cm hg r (n+1) H (EV (C5.refl _ _) (Nat.le_succ _) hr)
    have h1':C5 n H H':=fun i hi=>h1 i (by omega)
    refine⟨H',h1',fun x hm=>?_⟩
    rw [show n+(e::r).length =n+1+r.length by simp;omega]
    rcases List.mem_cons.1 hm with rfl | hm
    ·exact⟨by omega,by rw [(h1' x.tag a).2];exact b,c⟩
    ·exact h2 x hm
theorem fM: ∀ (l:List (DE T)) (n:Nat),(Yy q g n l).map DE.id=l.map DE.id
 | [],_=>rfl
 | e::r,n=>by
   unfold Yy
   split<;>simp [fM r]
theorem Az.remap_nx {H:A2 T} {st:Az T} (h:BV H st) (hf: ∀ {H:A2 T} {n:Nat} {v:DV T},v.ok H n→(f v).ok H n) (hg: ∀ {x:DX T},x.ok→(g x).ok): ∃ H',Nx H st H' (st.remap p f q g):=by
 obtain⟨H1,a1,b1⟩:=VE (p:=p) hf st.tm st.nx H h.tm
 obtain⟨H2,a2,b2⟩:=m8 (p:=p) hf st.gh (st.nx+st.tm.length) H1 (fun x hx=>Cc a1 (by omega) (h.gh x hx))
 obtain⟨H3,a3,b3⟩:=cm (q:=q) hg st.so (st.nx+st.tm.length+Qj st.gh) H2 (EV (a1.trans a2 (by omega)) (by omega) h.so)
 have a23:C5 (st.nx+st.tm.length) H1 H3:=a2.trans a3 (by omega)
 refine⟨H3,a1.trans a23 (by omega),by simp only [Az.remap];omega,?_,?_,b3,by simp only [Az.remap,fM];exact h.nd⟩
 ·exact Cc a23 (by simp only [Az.remap];omega) b1
 ·exact fun x hx=>Cc a3 (by simp only [Az.remap];omega) (b2 x hx)
theorem VF (hu:p .u =false) (i:Nat): ∀ (tm:Tm T) (n:Nat),lk (WG p f n tm) i=(match p (lk tm i)with | true=>f (lk tm i) | false=>lk tm i)
 | [],n=>by simp [WG,lk,hu]
 | (s,t,v)::r,n=>by
   unfold WG
   split
   ·rename_i hp
    simp only [lk]
    cases Nat.beq s i with
    | true=>simp only [hp]
    | false=>exact VF hu i r (n+1)
   ·rename_i hp
    simp only [lk]
    cases Nat.beq s i with
    | true=>simp only [hp]
    | false=>exact VF hu i r (n+1)
theorem fN {F:V→V} (hu:p .u =false) {tm:Tm T} (h1: ∀ i,p (lk tm i)=true→(f (lk tm i)).toV =F (lk tm i).toV) (h2: ∀ i,p (lk tm i)=false→F (lk tm i).toV =(lk tm i).toV) (m n:Nat):Bv m (WG p f n tm)=(Bv m tm).map F:=by
 unfold Bv
 rw [List.map_map]
 apply List.map_congr_left
 intro i _
 simp only [Function.comp,VF hu]
 split
 ·rename_i h;exact h1 i h
 ·rename_i h;exact(h2 i h).symm
theorem fO {F:V→V} (hu:p .u =false): ∀ {l:List (Nat×Tm T)} (n:Nat),(∀ x∈l, ∀ i,(p (lk x.2 i)=true→(f (lk x.2 i)).toV =F (lk x.2 i).toV)∧(p (lk x.2 i)=false→F (lk x.2 i).toV =(lk x.2 i).toV))→
 (j6 p f n l).flatMap (fun f=>Bv f.1 f.2)=(l.flatMap fun f=>Bv f.1 f.2).map F
 | [],_,_=>rfl
 | (m,tm)::r,n,h=>by
   simp only [j6,List.flatMap_cons,List.map_append]
   rw [fO hu (n+tm.length) (fun x hx=>h x (by simp [hx])),fN hu (fun i=>(h (m,tm) (by simp) i).1) (fun i=>(h (m,tm) (by simp) i).2)]
theorem WH {F:AY→AY}: ∀ {l:List (DE T)} (n:Nat),(∀ e∈l,(q e.x=true→ ∀ t,(⟨e.id,t,g e.x⟩:DE T).toE =F e.toE)∧(q e.x=false→F e.toE=e.toE))→(Yy q g n l).map DE.toE=(l.map DE.toE).map F
 | [],_,_=>rfl
 | e::r,n,h=>by
   have ih:=WH (n+1) (fun x hx=>h x (by simp [hx])) (l:=r)
   unfold Yy
   split
   ·rename_i hq
    simp only [List.map_cons,ih,(h e (by simp)).1 hq]
   ·rename_i hq
    simp only [List.map_cons,ih,(h e (by simp)).2 hq]
end
theorem JM (a b:AC):Cp a b=(a==b):=by
 cases h:Cp a b with
 | true=>have:=BG.1 h;subst this;simp
 | false=>
   have:a ≠ b:=fun e=>by rw [BG.2 e]at h;cases h
   simp [this]
def tD (id:AC):C→Bool
 | .osl i=>Cp i id
 | .ptr i _=>Cp i id
 | .bsl i _ _=>Cp i id
 | .bld i _=>Cp i id
 | .mref i=>Cp i id
 | .clo _ cs=>Cw id cs
 | .bmv _ cs=>Cw id cs
 | _=>false
theorem tE (id:AC) (c:C):tD id c=c.men id:=by
 cases c<;>simp only [tD,C.men,JM]
mutual
def DC.men (id:AC):DC T→Bool
 | .c x=>tD id x
 | .rp i _ _ _=>Cp i id
 | .ap i _ _ _ _ _=>Cp i id
 | .clo _ _ cs=>Qk id cs
 | .k _ _=>false
 | .ip .. =>false
def Qk (id:AC):List (DC T)→Bool
 | []=>false
 | c::cs=>match c.men id with
   | true=>true
   | false=>Qk id cs
end
mutual
theorem DC.men_eq (id:AC): ∀ c:DC T,c.men id=c.toC.men id
 | .c x=>by simp only [DC.men,DC.toC,tE]
 | .rp .. =>by simp only [DC.men,DC.toC,C.men,JM]
 | .ap .. =>by simp only [DC.men,DC.toC,C.men,JM]
 | .clo true _ cs=>by simp only [DC.men,DC.toC,C.men,Mk id cs]
 | .clo false _ cs=>by simp only [DC.men,DC.toC,C.men,Mk id cs]
 | .k kd x=>by cases kd<;>simp only [DC.men,DC.toC,B7,C.men]
 | .ip .. =>by simp only [DC.men,DC.toC,C.men]
theorem Mk (id:AC): ∀ cs:List (DC T),Qk id cs=Cw id (A1 cs)
 | []=>by simp only [Qk,A1,Cw]
 | c::cs=>by
   simp only [Qk,A1,Cw,DC.men_eq id c,Mk id cs]
   cases c.toC.men id<;>rfl
end
mutual
def DV.men (id:AC):DV T→Bool
 | .c x=>x.men id
 | .agg cs=>Qk id cs
 | .tup vs=>Z6 id vs
 | .g _ v=>v.men id
 | .u =>false
def Z6 (id:AC):List (DV T)→Bool
 | []=>false
 | v::vs=>match v.men id with
   | true=>true
   | false=>Z6 id vs
end
mutual
theorem DV.men_le (id:AC): ∀ v:DV T,v.men id=false→v.toV.men id=false
 | .c x,h=>by simpa only [DV.men,DV.toV,V.men,DC.men_eq] using h
 | .agg cs,h=>by simpa only [DV.men,DV.toV,V.men,Mk] using h
 | .tup vs,h=>by simp only [DV.men]at h;simp only [DV.toV,V.men];exact fP id vs h
 | .g k v,h=>by simp only [DV.men]at h;simp only [DV.toV,V.men,DV.men_le id v h,Bool.false_and]
 | .u,_=>by simp only [DV.toV,V.men]
theorem fP (id:AC): ∀ vs:List (DV T),Z6 id vs=false→LN id (Bx vs)=false
 | [],_=>by simp only [Bx,LN]
 | v::vs,h=>by
   simp only [Z6]at h
   split at h
   ·cases h
   ·rename_i hv
    simp only [Bx,LN,DV.men_le id v hv,fP id vs h,Bool.or_self]
end
def WJ (id:AC) (c:DC T):DC T:=match c.men id with
 | true=> .c .any
 | false=>c
def DX.men (id:AC):DX T→Bool
 | .box cs=>Qk id cs
 | .row _ _=>false
def Ml (id:AC):DX T→DX T
 | .box cs=> .box (cs.map (WJ id))
 | x=>x
def fQ (p:DV T→Bool):Tm T→Bool
 | []=>true
 | (_,_,v)::r=>match p v with
   | true=>fQ p r
   | false=>false
def nc (p:DV T→Bool):List (Nat×Tm T)→Bool
 | []=>true
 | (_,tm)::r=>match fQ p tm with
   | true=>nc p r
   | false=>false
def ne (q:DX T→Bool):List (DE T)→Bool
 | []=>true
 | e::r=>match q e.x with
   | true=>ne q r
   | false=>false
theorem Pg {p:DV T→Bool} (hu:p .u =true): ∀ {tm:Tm T},fQ p tm=true→ ∀ i,p (lk tm i)=true
 | [],_,i=>hu
 | (s,t,v)::r,h,i=>by
   simp only [fQ]at h
   split at h
   ·rename_i hv
    simp only [lk]
    cases Nat.beq s i
    ·exact Pg hu h i
    ·exact hv
   ·cases h
theorem WK {p:DV T→Bool} (hu:p .u =true): ∀ {l:List (Nat×Tm T)},nc p l=true→ ∀ x∈l, ∀ i,p (lk x.2 i)=true
 | [],_,x,hx,_=>by cases hx
 | (m,tm)::r,h,x,hx,i=>by
   simp only [nc]at h
   split at h
   ·rename_i hv
    rcases List.mem_cons.1 hx with rfl | hx
    ·exact Pg hu hv i
    ·exact WK hu h x hx i
   ·cases h
theorem WL {q:DX T→Bool}: ∀ {l:List (DE T)},ne q l=true→ ∀ e∈l,q e.x=true
 | [],_,e,he=>by cases he
 | x::r,h,e,he=>by
   simp only [ne]at h
   split at h
   ·rename_i hv
    rcases List.mem_cons.1 he with rfl | he
    ·exact hv
    ·exact WL h e he
   ·cases h
def Az.noMen (st:Az T) (id:AC):Bool:=fQ (fun v=> !(v.men id)) st.tm&&(nc (fun v=> !(v.men id)) st.gh&&ne (fun x=> !(x.men id)) st.so)
def Az.kill (st:Az T) (id:AC):Option (Az T):=match Fs id||Lo id with
 | true=>none
 | false=>match st.noMen id with
   | true=>some {st with so:=st.so.filter fun e=> !(Cp e.id id)}
   | false=>some (let s:=st.remap (DV.men id) (fun _=> .u) (DX.men id) (Ml id);{s with so:=s.so.filter fun e=> !(Cp e.id id)})
theorem oC {id:AC} {c:DC T} (h:c.ok):(WJ id c).ok :=by
 unfold WJ
 split
 ·simp only [DC.ok]
 ·exact h
theorem j7 (id:AC) (c:DC T):(WJ id c).toC =Gb id c.toC:=by
 unfold WJ Gb
 rw [DC.men_eq]
 cases c.toC.men id<;>simp [DC.toC]
theorem Gl {α:Type} {F:α→α}: ∀ {l:List α},(∀ x∈l,F x=x)→l.map F=l
 | [],_=>rfl
 | a::l,h=>by rw [List.map_cons,h a (by simp),Gl (fun x hx=>h x (by simp [hx]))]
theorem qV {F:V→V} {m:Nat} {tm:Tm T} (h: ∀ i,F (lk tm i).toV =(lk tm i).toV):(Bv m tm).map F=Bv m tm:=by
 refine Gl fun x hx=>?_
 obtain⟨i,_,rfl⟩:=List.mem_map.1 hx
 exact h i
theorem xE {F:V→V} {l:List (Nat×Tm T)} (h: ∀ x∈l, ∀ i,F (lk x.2 i).toV =(lk x.2 i).toV):(l.flatMap fun f=>Bv f.1 f.2).map F=l.flatMap fun f=>Bv f.1 f.2:=by
 refine Gl fun x hx=>?_
 obtain⟨y,hy,hx⟩:=List.mem_flatMap.1 hx
 obtain⟨i,_,rfl⟩:=List.mem_map.1 hx
 exact h y hy i
def vZ:List V→List V→Prop
 | [],[]=>True
 | x::xs,y::ys=>(y= .undef ∨y=x)∧vZ xs ys
 | _,_=>False
theorem vZ.map {α:Type} {f g:α→V}: ∀ {l:List α},(∀ x∈l,g x= .undef ∨g x=f x)→vZ (l.map f) (l.map g)
 | [],_=>trivial
 | a::l,h=>⟨h a (by simp),vZ.map fun x hx=>h x (by simp [hx])⟩
theorem Mm {H:A2 T} {st:Az T} (h:BV H st) (p:DE T→Bool):BV H {st with so:=st.so.filter p}:=
 ⟨h.tm,h.gh,fun e he=>h.so e (List.mem_filter.1 he).1,List.Sublist.nodup (List.Sublist.map _ List.filter_sublist) h.nd⟩
theorem WM (id:AC) (hd:Fs id=false) (l:List (DE T)):(l.filter fun e=> !(Cp e.id id)).map DE.toE=(l.map DE.toE).filter (fun e=>e.id != id&& !(Fs id&&Lo e.id)):=by
 induction l with
 | nil=>rfl
 | cons e l ih=>
   simp only [List.filter_cons,List.map_cons,DE.toE_id,hd,Bool.false_and,Bool.not_false,Bool.and_true,JM]at ih ⊢
   cases h:e.id==id with
   | true=>simp only [bne,h,Bool.not_true,Bool.false_eq_true,if_false];exact ih
   | false=>simp only [bne,h,Bool.not_false,if_true,List.map_cons];rw [ih];rfl
theorem cn {id:AC} {e:DE T} (h:e.x.men id=false):e.toE.fre id=true:=by
 unfold AY.fre DE.toE
 cases hxx:e.x with
 | box cs=>rw [hxx]at h;simp only [DX.men,Mk]at h;simp [h]
 | row E l=>rfl
theorem j8 {id:AC} {e:DE T} (t:Nat):(⟨e.id,t,Ml id e.x⟩:DE T).toE =AY.kill id e.toE:=by
 unfold DE.toE
 cases hxx:e.x with
 | box cs=>
   simp only [Ml,AY.kill,CT,List.map_map,AY.mk.injEq,and_true,true_and]
   exact List.map_congr_left fun c _=>j7 id c
 | row E l=>rfl
theorem fR (id:AC) (p:AC→Bool→Bool) (l:List AY):(l.map (AY.kill id)).filter (fun e=>e.id != id&& !(Fs id&&Lo e.id))=(l.filter (fun e=>e.id != id&& !(Fs id&&Lo e.id))).map (AY.kill id):=by
 induction l with
 | nil=>rfl
 | cons e l ih=>
   simp only [List.filter_cons,List.map_cons,AY.kill_id]
   split
   ·rw [ih,List.map_cons]
   ·exact ih
theorem fS {id:AC} {m n:Nat} {tm:Tm T}:vZ ((Bv m tm).map (Gc id)) (Bv m (WG (DV.men id) (fun _=> .u) n tm)):=by
 unfold Bv
 rw [List.map_map]
 refine vZ.map fun i _=>?_
 simp only [Function.comp,VF (p:=DV.men id) (f:=fun _=>DV.u) (by simp [DV.men])]
 split
 ·exact .inl (by simp only [DV.toV])
 ·rename_i h;exact .inr (P9 (DV.men_le id _ h)).symm
theorem uS {id:AC}: ∀ (l:List (Nat×Tm T)) (n:Nat),vZ ((l.flatMap fun f=>Bv f.1 f.2).map (Gc id)) ((j6 (DV.men id) (fun _=> .u) n l).flatMap fun f=>Bv f.1 f.2)
 | [],_=>trivial
 | (m,tm)::r,n=>by
   simp only [j6,List.flatMap_cons,List.map_append]
   exact fS.append (uS r _)
theorem Az.kill_spec {H:A2 T} {st st':Az T} {id:AC} (h:BV H st) (hk:st.kill id=some st'):(∃ H',Nx H st H' st')∧Ch (st.toSt.kill id) st'.toSt∧st'.toSt.so=(st.toSt.kill id).so ∧Fs id=false∧Lo id=false∧st'.pre=st.pre∧ ∀ e∈st'.so,e.id ≠ id:=by
 have nid: ∀ l:List (DE T), ∀ e∈l.filter (fun e=> !(Cp e.id id)),e.id ≠ id:=fun l e he q=>by
  have:=(List.mem_filter.1 he).2
  rw [BG.2 q]at this;cases this
 unfold Az.kill at hk
 split at hk
 ·cases hk
 ·rename_i hd
  simp only [Bool.or_eq_false_iff]at hd
  split at hk
  ·rename_i hn
   injection hk with hk;subst hk
   simp only [Az.noMen,Bool.and_eq_true]at hn
   obtain⟨n1,n2,n3⟩:=hn
   have k1: ∀ i,Gc id (lk st.tm i).toV =(lk st.tm i).toV :=fun i=>P9 (DV.men_le id _ (by simpa using Pg (by simp [DV.men]) n1 i))
   have k2: ∀ x∈st.gh, ∀ i,Gc id (lk x.2 i).toV =(lk x.2 i).toV :=fun x hx i=>P9 (DV.men_le id _ (by simpa using WK (by simp [DV.men]) n2 x hx i))
   have e:(({st with so:=st.so.filter fun e=> !(Cp e.id id)}:Az T)).toSt =st.toSt.kill id:=by
    simp only [Az.toSt,St.kill,St.mk.injEq,and_true]
    refine⟨(qV k1).symm,?_,(xE k2).symm⟩
    rw [WM id hd.1]
    refine(Gl fun e he=>?_).symm
    obtain⟨x,hx,rfl⟩:=List.mem_map.1 (List.mem_filter.1 he).1
    have:=WL n3 x hx
    exact AY.kill_eq (cn (by simpa using this))
   exact⟨⟨H,C5.refl _ _,Nat.le_refl _,Mm h _⟩,e▸Ch.refl _,by rw [e],hd.1,hd.2,rfl,nid _⟩
  ·injection hk with hk;subst hk
   obtain⟨H',hN⟩:=Az.remap_nx (p:=DV.men id) (f:=fun _=> .u) (q:=DX.men id) (g:=Ml id) h (fun _=>by simp only [DV.ok]) (fun {x} hx=>by
    cases x with
    | box cs=>
      simp only [Ml,DX.ok]at hx ⊢
      refine Cl.2 fun c hc=>?_
      obtain⟨d,h1,rfl⟩:=List.mem_map.1 hc
      exact oC (Cl.1 hx d h1)
    | row E l=>exact hx)
   have hso:(((Yy (DX.men id) (Ml id) (st.nx+st.tm.length+Qj st.gh) st.so).filter fun e=> !(Cp e.id id)).map DE.toE)=(st.toSt.kill id).so :=by
    rw [WM id hd.1,WH (F:=AY.kill id) _ (fun e _=>⟨fun _ t=>j8 t,fun hm=>AY.kill_eq (cn hm)⟩)]
    exact fR id (fun _ _=>true) _
   refine⟨⟨H',hN.ext,hN.le,Mm hN.ok _⟩,?_,hso,hd.1,hd.2,rfl,nid _⟩
   have a:=(fS (id:=id) (m:=st.m) (n:=st.nx) (tm:=st.tm)).get
   have b:=(uS (id:=id) st.gh (st.nx+st.tm.length)).get
   exact⟨a.1,a.2,fun e he=>by rw [←hso];exact he,fun hn=>by
    have:(Az.toSt {(st.remap (DV.men id) (fun _=> .u) (DX.men id) (Ml id))with so:=(st.remap (DV.men id) (fun _=> .u) (DX.men id) (Ml id)).so.filter fun e=> !(Cp e.id id)}).so =(st.toSt.kill id).so :=hso
    rw [this];exact hn,b,rfl⟩
def Az.new (st:Az T) (id:AC) (x:DX T):Option (Az T):=match st.kill id,x.men id with
 | some s,false=>some {s with so:=⟨id,s.nx,x⟩::s.so,nx:=s.nx+1}
 | _,_=>none
theorem Az.new_spec {H:A2 T} {st st':Az T} {id:AC} {x:DX T} (h:BV H st) (hx:x.ok) (hk:st.new id x=some st'):(∃ H',Nx H st H' st')∧Ch (st.toSt.new (⟨id,0,x⟩:DE T).toE) st'.toSt∧st'.pre=st.pre:=by
 unfold Az.new at hk
 split at hk
 ·rename_i s hs hm
  injection hk with hk;subst hk
  obtain⟨⟨H',hN⟩,h2,h2',h3,h4,h5,h6⟩:=Az.kill_spec h hs
  have he:=C5.setE H' s.nx ⟨id,s.nx,x⟩
  refine⟨⟨H'.setE s.nx ⟨id,s.nx,x⟩,hN.trans ⟨he,Nat.le_succ _,?_,?_,?_,?_⟩⟩,?_,h5⟩
  ·exact Cc he (Nat.le_succ _) hN.ok.tm
  ·exact fun f hf=>Cc he (Nat.le_succ _) (hN.ok.gh f hf)
  ·intro e hm'
   rcases List.mem_cons.1 hm' with rfl | hm'
   ·exact⟨Nat.lt_succ_self _,by simp [A2.setE],hx⟩
   ·exact EV he (Nat.le_succ _) hN.ok.so e hm'
  ·rw [List.map_cons]
   refine List.nodup_cons.2 ⟨fun hm'=>?_,hN.ok.nd⟩
   obtain⟨e,h7,h8⟩:=List.mem_map.1 hm'
   exact h6 e h7 h8
  ·have e1:(⟨id,0,x⟩:DE T).toE.id =id:=DE.toE_id _
   have e2:(⟨id,s.nx,x⟩:DE T).toE =(⟨id,0,x⟩:DE T).toE :=rfl
   have e3:AY.kill id (⟨id,0,x⟩:DE T).toE =(⟨id,0,x⟩:DE T).toE :=AY.kill_eq (cn hm)
   have e5:(st.toSt.new (⟨id,0,x⟩:DE T).toE).so =(⟨id,0,x⟩:DE T).toE ::s.toSt.so:=by
    unfold St.new
    rw [e1,e3]
    unfold Zr
    rw [e1,h3,h4,h2']
    rfl
   have e6:(Az.toSt {s with so:=⟨id,s.nx,x⟩::s.so,nx:=s.nx+1}).so =(⟨id,0,x⟩:DE T).toE ::s.toSt.so:=rfl
   have hl:=h2
   rw [show (st.toSt.kill id)=st.toSt.kill (⟨id,0,x⟩:DE T).toE.id by rw [e1]]at hl
   exact⟨hl.len,hl.tm,fun e he=>by rw [e5];rw [e6]at he;exact he,fun hn=>by rw [e6];rw [e5]at hn;exact hn,hl.gh,by show s.pre=st.pre;exact h5⟩
 ·cases hk
end Go.PL
namespace Go.PL
open Go Go.RowKit
variable {T:C1}
def Lr (id:AC) (E:Nat) (l:List (T.den E)) (c:DC T):DC T:=match c.men id with
 | false=>c
 | true=>match c with
   | .c (.osl _)=> .k (.lst E) l
   | _=> .c .any
mutual
def DL (id:AC) (E:Nat) (l:List (T.den E)):DV T→DV T
 | .c x=> .c (Lr id E l x)
 | .agg cs=> .agg (cs.map (Lr id E l))
 | .tup vs=> .tup (HP id E l vs)
 | .g k v=> .g k (DL id E l v)
 | .u => .u
def HP (id:AC) (E:Nat) (l:List (T.den E)):List (DV T)→List (DV T)
 | []=>[]
 | v::vs=>DL id E l v::HP id E l vs
end
def WN (id:AC) (E:Nat) (l:List (T.den E)):DX T→DX T
 | .box cs=> .box (cs.map (Lr id E l))
 | x=>x
def Az.frz (st:Az T) (id:AC):Option (Az T):=match Om st id with
 | some ⟨E,l⟩=>some (let s:=st.remap (DV.men id) (DL id E l) (DX.men id) (WN id E l);{s with so:=s.so.filter fun e=> !(Cp e.id id)})
 | none=>none
section
variable {id:AC} {E:Nat} {l:List (T.den E)}
theorem Z7 (c:DC T):(Lr id E l c).toC =UX id l.length (l.flatMap (T.enc E)) c.toC:=by
 unfold Lr
 cases hm:c.men id with
 | false=>
   rw [DC.men_eq]at hm
   simp only
   cases hc:c.toC<;>rw [hc]at hm<;>simp only [C.men,beq_eq_false_iff_ne,ne_eq]at hm<;>simp only [UX]<;>first
    | (rw [if_neg hm];done)
    | (rw [if_neg (by simp [hm])];done)
    | rfl
 | true=>
   have hm':=hm
   rw [DC.men_eq]at hm'
   simp only
   split
   ·rename_i i
    simp only [DC.men,tD]at hm
    have:=BG.1 hm
    subst this
    simp only [DC.toC,B7,UX,if_true]
   ·rename_i hne
    have: ∀ i,c.toC ≠ .osl i:=fun i he=>by
     cases c with
     | c x=>simp only [DC.toC]at he;subst he;exact hne i rfl
     | k kd x=>cases kd<;>simp [DC.toC,B7]at he
     | ip=>simp [DC.toC]at he
     | rp=>simp [DC.toC]at he
     | ap=>simp [DC.toC]at he
     | clo b f cs=>cases b<;>simp [DC.toC]at he
    cases hc:c.toC<;>rw [hc]at hm' this<;>simp only [C.men,beq_iff_eq,Bool.false_eq_true]at hm'<;>simp only [UX,DC.toC]<;>first
     | exact(this _ rfl).elim
     | (rw [if_pos hm'];done)
theorem WO {c:DC T} (h:c.ok):(Lr id E l c).ok :=by
 unfold Lr
 split
 ·exact h
 ·split<;>simp only [DC.ok]
theorem WP (cs:List (DC T)):A1 (cs.map (Lr id E l))=(A1 cs).map (UX id l.length (l.flatMap (T.enc E))):=by
 rw [CT,CT,List.map_map,List.map_map]
 exact List.map_congr_left fun c _=>Z7 c
mutual
theorem NF: ∀ v:DV T,(DL id E l v).toV =RX id l.length (l.flatMap (T.enc E)) v.toV
 | .c x=>by simp only [DL,DV.toV,RX,Z7]
 | .agg cs=>by simp only [DL,DV.toV,RX,WP]
 | .tup vs=>by simp only [DL,DV.toV,RX,WQ vs]
 | .g k v=>by simp only [DL,DV.toV,RX,NF v]
 | .u =>by simp only [DL,DV.toV,RX]
theorem WQ: ∀ vs:List (DV T),Bx (HP id E l vs)=Oh id l.length (l.flatMap (T.enc E)) (Bx vs)
 | []=>by simp only [HP,Bx,Oh]
 | v::vs=>by simp only [HP,Bx,Oh,NF v,WQ vs]
end
theorem WR: ∀ {cs:List (DC T)},Qk id cs=false→cs.map (Lr id E l)=cs
 | [],_=>rfl
 | c::cs,h=>by
   simp only [Qk]at h
   split at h
   ·cases h
   ·rename_i hc
    have:Lr id E l c=c:=by unfold Lr;simp only [hc]
    rw [List.map_cons,WR h,this]
mutual
theorem WS: ∀ v:DV T,v.men id=false→DL id E l v=v
 | .c x,h=>by simp only [DV.men]at h;simp only [DL,Lr,h]
 | .agg cs,h=>by simp only [DV.men]at h;simp only [DL,WR h]
 | .tup vs,h=>by simp only [DV.men]at h;simp only [DL,Z8 vs h]
 | .g k v,h=>by simp only [DV.men]at h;simp only [DL,WS v h]
 | .u,_=>by simp only [DL]
theorem Z8: ∀ vs:List (DV T),Z6 id vs=false→HP id E l vs=vs
 | [],_=>by simp only [HP]
 | v::vs,h=>by
   simp only [Z6]at h
   split at h
   ·cases h
   ·rename_i hv
    simp only [HP,WS v hv,Z8 vs h]
end
theorem fT {f:DC T→DC T} (hf: ∀ c,c.ok→(f c).ok) {cs:List (DC T)} (h:Ci cs):Ci (cs.map f):=Cl.2 fun c hc=>by
 obtain⟨d,h1,rfl⟩:=List.mem_map.1 hc
 exact hf d (Cl.1 h d h1)
mutual
theorem WT {H:A2 T} {n:Nat}: ∀ {v:DV T},v.ok H n→(DL id E l v).ok H n
 | .c x,h=>by simp only [DV.ok,DL]at h ⊢;exact WO h
 | .agg cs,h=>by simp only [DV.ok,DL]at h ⊢;exact fT (fun _ q=>WO q) h
 | .tup vs,h=>by simp only [DV.ok,DL]at h ⊢;exact Z9 h
 | .g k v,h=>by simp only [DV.ok,DL]at h ⊢;exact⟨h.1,fun q=>WT (h.2 q)⟩
 | .u,_=>by simp only [DV.ok,DL]
theorem Z9 {H:A2 T} {n:Nat}: ∀ {vs:List (DV T)},Dg H n vs→Dg H n (HP id E l vs)
 | [],_=>by simp only [Dg,HP]
 | v::vs,h=>by simp only [Dg,HP]at h ⊢;exact⟨WT h.1,Z9 h.2⟩
end
theorem ac {e:DE T} (t:Nat):(⟨e.id,t,WN id E l e.x⟩:DE T).toE =AY.frz id l.length (l.flatMap (T.enc E)) e.toE:=by
 unfold DE.toE
 cases hxx:e.x with
 | box cs=>simp only [WN,AY.frz,WP]
 | row E l=>rfl
theorem qW {e:DE T} (h:e.x.men id=false):AY.frz id l.length (l.flatMap (T.enc E)) e.toE=e.toE:=by
 rw [←ac e.tag]
 cases hxx:e.x with
 | box cs=>rw [hxx]at h;simp only [DX.men]at h;simp only [WN,WR h,DE.toE,hxx]
 | row E l=>simp only [WN,DE.toE,hxx]
theorem j9 (id:AC) (n:Nat) (cs:List C) (l:List AY):(l.map (AY.frz id n cs)).filter (fun e=>e.id != id)=(l.filter (fun e=>e.id != id)).map (AY.frz id n cs):=by
 induction l with
 | nil=>rfl
 | cons e l ih=>
   simp only [List.filter_cons,List.map_cons,AY.frz_id]
   split
   ·rw [ih,List.map_cons]
   ·exact ih
theorem filter_toE' (id:AC) (l:List (DE T)):(l.filter fun e=> !(Cp e.id id)).map DE.toE=(l.map DE.toE).filter (fun e=>e.id != id):=by
 induction l with
 | nil=>rfl
 | cons e l ih=>
   simp only [List.filter_cons,List.map_cons,DE.toE_id,JM]at ih ⊢
   cases h:e.id==id with
   | true=>simp only [bne,h,Bool.not_true,Bool.false_eq_true,if_false];exact ih
   | false=>simp only [bne,h,Bool.not_false,if_true,List.map_cons];rw [ih];rfl
end
theorem Az.frz_spec {H:A2 T} {st st':Az T} {id:AC} (h:BV H st) (hk:st.frz id=some st'):(∃ H',Nx H st H' st')∧st'.toSt=st.toSt.freeze id∧st.toSt.okFrz id=true∧st'.pre=st.pre:=by
 unfold Az.frz at hk
 split at hk
 ·rename_i E l hr
  injection hk with hk;subst hk
  obtain⟨hl,_,_⟩:=DJ hr
  obtain⟨H',hN⟩:=Az.remap_nx (p:=DV.men id) (f:=DL id E l) (q:=DX.men id) (g:=WN id E l) h WT (fun {x} hx=>by
   cases x with
   | box cs=>simp only [WN,DX.ok]at hx ⊢;exact fT (fun _ q=>WO q) hx
   | row E l=>exact hx)
  refine⟨⟨H',hN.ext,hN.le,Mm hN.ok _⟩,?_,by simp only [St.okFrz,hl],rfl⟩
  have F1: ∀ tm:Tm T, ∀ i,(DV.men id (lk tm i)=true→(DL id E l (lk tm i)).toV =RX id l.length (l.flatMap (T.enc E)) (lk tm i).toV)∧(DV.men id (lk tm i)=false→RX id l.length (l.flatMap (T.enc E)) (lk tm i).toV =(lk tm i).toV):=fun tm i=>
   ⟨fun _=>NF _,fun hm=>by rw [←NF,WS _ hm]⟩
  have fm: ∀ l':List V,Oh id l.length (l.flatMap (T.enc E)) l'=l'.map (RX id l.length (l.flatMap (T.enc E))):=by
   intro l'
   induction l' with
   | nil=>simp [Oh]
   | cons a b ih=>simp [Oh,ih]
  unfold St.freeze
  rw [hl]
  simp only [Bool.not_true,Bool.false_eq_true,if_false,Az.toSt,Az.remap,St.mk.injEq,and_true,fm]
  refine⟨fN (by simp [DV.men]) (fun i=>(F1 st.tm i).1) (fun i=>(F1 st.tm i).2) _ _,?_,fO (by simp [DV.men]) _ (fun x _=>F1 x.2)⟩
  rw [filter_toE',WH (F:=AY.frz id l.length (l.flatMap (T.enc E))) _ (fun e _=>⟨fun _ t=>ac t,fun hm=>qW hm⟩)]
  exact j9 _ _ _ _
 ·cases hk
def WU (id:AC) (t:Nat) (x:DX T):List (DE T)→List (DE T)
 | []=>[]
 | e::r=>match Cp e.id id with
   | true=>⟨e.id,t,x⟩::r
   | false=>e::WU id t x r
def Az.setX (st:Az T) (id:AC) (x:DX T):Az T:={st with so:=WU id st.nx x st.so,nx:=st.nx+1}
theorem fU (id:AC) (t:Nat) (x:DX T): ∀ l:List (DE T),(WU id t x l).map DE.id=l.map DE.id
 | []=>rfl
 | e::r=>by
   unfold WU
   split<;>simp [fU id t x r]
theorem WV {id:AC} {t:Nat} {x:DX T} {F:AY→AY} (hF: ∀ a:AY,a.id ≠ id→F a=a): ∀ {l:List (DE T)} {e:DE T},(l.map DE.id).Nodup →e∈l→e.id=id→F e.toE=(⟨id,t,x⟩:DE T).toE →(l.map DE.toE).map F=(WU id t x l).map DE.toE
 | [],_,_,h,_,_=>by cases h
 | a::r,e,hn,hm,he,hf=>by
   rw [List.map_cons]at hn
   obtain⟨n1,n2⟩:=List.nodup_cons.1 hn
   unfold WU
   split
   ·rename_i hb
    have hb:=BG.1 hb
    have hae:a=e:=by
     rcases List.mem_cons.1 hm with q | q
     ·exact q.symm
     ·exact absurd (List.mem_map.2 ⟨e,q,he.trans hb.symm⟩) n1
    subst hae
    simp only [List.map_cons,hf]
    rw [←hb]
    congr 1
    refine Gl fun y hy=>?_
    obtain⟨z,hz,rfl⟩:=List.mem_map.1 hy
    refine hF _ ?_
    rw [DE.toE_id]
    intro q
    exact n1 (List.mem_map.2 ⟨z,hz,q.trans hb.symm⟩)
   ·rename_i hb
    have hne:a.id ≠ id:=fun q=>by rw [BG.2 q]at hb;cases hb
    have hm':e∈r:=by
     rcases List.mem_cons.1 hm with q | q
     ·subst q;exact absurd he hne
     ·exact q
    simp only [List.map_cons,WV hF n2 hm' he hf]
    rw [hF _ (by rw [DE.toE_id];exact hne)]
theorem Az.setX_nx {H:A2 T} {st:Az T} (h:BV H st) (id:AC) {x:DX T} (hx:x.ok): ∃ H',Nx H st H' (st.setX id x):=by
 by_cases hid: ∃ e∈st.so,e.id=id
 ·obtain⟨e0,_,he0⟩:=hid
  have he:=C5.setE H st.nx ⟨id,st.nx,x⟩
  refine⟨H.setE st.nx ⟨id,st.nx,x⟩,he,Nat.le_succ _,Cc he (Nat.le_succ _) h.tm,fun f hf=>Cc he (Nat.le_succ _) (h.gh f hf),?_,by simp only [Az.setX,fU];exact h.nd⟩
  have key: ∀ l:List (DE T),(∀ e∈l,e.tag<st.nx∧H.e e.tag=e∧e.x.ok)→ ∀ e∈WU id st.nx x l,e.tag<st.nx+1∧(H.setE st.nx ⟨id,st.nx,x⟩).e e.tag=e∧e.x.ok:=by
   intro l
   induction l with
   | nil=>intro _ e hm;cases hm
   | cons a r ih=>
     intro hl e hm
     unfold WU at hm
     split at hm
     ·rename_i hb
      have hb:=BG.1 hb
      rcases List.mem_cons.1 hm with rfl | hm
      ·exact⟨Nat.lt_succ_self _,by simp [A2.setE,hb],hx⟩
      ·exact EV he (Nat.le_succ _) hl e (by simp [hm])
     ·rcases List.mem_cons.1 hm with rfl | hm
      ·exact EV he (Nat.le_succ _) hl e (by simp)
      ·exact ih (fun y hy=>hl y (by simp [hy])) e hm
  exact key st.so h.so
 ·have: ∀ l:List (DE T),(∀ e∈l,e.id ≠ id)→WU id st.nx x l=l:=by
   intro l
   induction l with
   | nil=>intro _;rfl
   | cons a r ih=>
     intro hl
     unfold WU
     split
     ·rename_i hb;exact absurd (BG.1 hb) (hl a (by simp))
     ·rw [ih (fun y hy=>hl y (by simp [hy]))]
  have hs:WU id st.nx x st.so=st.so:=this st.so (fun e he q=>hid ⟨e,he,q⟩)
  exact⟨H,C5.refl _ _,Nat.le_succ _,Cc (C5.refl _ _) (Nat.le_succ _) h.tm,fun f hf=>Cc (C5.refl _ _) (Nat.le_succ _) (h.gh f hf),by simp only [Az.setX,hs];exact EV (C5.refl _ _) (Nat.le_succ _) h.so,by simp only [Az.setX,hs];exact h.nd⟩
theorem Az.setX_toSt {H:A2 T} {st:Az T} (h:BV H st) {id:AC} {x:DX T} {e:DE T} (hm:e∈st.so) (he:e.id=id) {cs:List C} {q:Bool} (hx:(⟨id,e.toE.row,cs,e.toE.pu&&q⟩:AY)=(⟨id,st.nx,x⟩:DE T).toE):(st.setX id x).toSt =st.toSt.setCs id cs q:=by
 have:=WV (t:=st.nx) (x:=x) (F:=fun e=>if e.id==id then⟨e.id,e.row,cs,e.pu&&q⟩else e) (fun a ha=>by simp [ha]) h.nd hm he (by rw [←hx];simp [DE.toE_id,he])
 simp only [Az.toSt,Az.setX,St.setCs,St.mk.injEq,and_true,true_and]
 exact this.symm
end Go.PL
namespace Go.PL
open Go Go.RowKit
variable {T:C1}
def fV:Operand→DV T→DV T
 | .const (.slice none 0 0),_=> .c (.c .nils)
 | _,v=>v
def kf:DV T→DV T
 | .c (.c .nils)=> .c (.c (.sl 0 []))
 | v=>v
def Uf {α:Type} (i:Nat) (x:α):Nat→List α→List α
 | _,[]=>[]
 | j,a::r=>(if i=j then x else a)::Uf i x (j+1) r
theorem fW {α:Type} {i:Nat} {x:α}: ∀ (l:List α) (j:Nat),j≤i→Uf i x j l=l.set (i - j) x
 | [],_,_=>rfl
 | a::r,j,h=>by
   unfold Uf
   by_cases hj:i=j
   ·subst hj
    simp only [if_true,Nat.sub_self,List.set_cons_zero,List.cons.injEq,true_and]
    have: ∀ (r:List α) (k:Nat),i<k→Uf i x k r=r:=by
     intro r
     induction r with
     | nil=>intro _ _;rfl
     | cons b r ih=>intro k hk;rw [Uf,if_neg (by omega),ih _ (by omega)]
    exact this r _ (Nat.lt_succ_self _)
   ·rw [if_neg hj,fW r (j+1) (by omega),show i - j=(i - (j+1))+1 by omega,List.set_cons_succ]
def Mn (E:Nat):List (T.den E)→List (DC T)
 | []=>[]
 | x::l=>jX E x++Mn E l
theorem Ug (E:Nat): ∀ l:List (T.den E),A1 (Mn E l)=l.flatMap (T.enc E)
 | []=>by simp [Mn,A1]
 | x::l=>by rw [Mn,B2,HL,Ug E l,List.flatMap_cons]
theorem ae (E:Nat): ∀ l:List (T.den E),Ci (Mn E l)
 | []=>by simp [Mn,Ci]
 | x::l=>CI (Pc E x) (ae E l)
def tF (E:Nat) (x:T.den E) (off:Nat) (cs:List (DC T)):Option (T.den E):=match Nat.ble (off+cs.length) (T.sz E)with
 | true=>qx false E ((jX E x).take off++(cs++(jX E x).drop (off+cs.length)))
 | false=>none
def kg (P:Program) (t:TypeId) (d:Option Nat) (st:Az T) (p v:DV T):M (Az T):=
 match Oe P t with
 | none=> .no
 | some (_,n)=>match p with
   | .c (.c (.ptr id off))=>match Qd st id,v.cells with
     | some ds,some cs=>mIf (Nat.beq cs.length n&&Nat.ble (off+n) ds.length) (.ret ((st.setX id (.box (ds.take off++(cs++ds.drop (off+n))))).put d .u))
     | _,_=> .no
   | .c (.rp id N i off)=>match Om st id,(kf v).cells with
     | some ⟨E,l⟩,some cs=>mIf (Nat.beq N (T.sz E)&&Nat.beq cs.length n) (.opt (idx l i) fun x=>match tF E x off cs with
       | some x'=> .ret ((st.setX id (.row E (l.set i.toNat x'))).put d .u)
       | none=> .no)
     | _,_=> .no
   | .c (.ap id base m E i off)=>match Qd st id,v.cells with
     | some ds,some cs=>match Kw E m (ds.drop base)with
       | some l=>mIf (Nat.beq cs.length n&&Nat.ble (base+m*T.sz E) ds.length) (.opt (idx l i) fun x=>match tF E x off cs with
         | some x'=> .ret ((st.setX id (.box (ds.take base++(Mn E (Uf i.toNat x' 0 l)++ds.drop (base+m*T.sz E))))).put d .u)
         | none=> .no)
       | none=> .no
     | _,_=> .no
   | _=> .no
def HQ (st:Az T) (d:Nat) (x:DX T) (v:AC→DC T):M (Az T):=match st.new (d::st.pre) x with
 | some s=> .ret (s.put (some d) (.c (v (d::st.pre))))
 | none=> .no
def co (P:Program) (t:TypeId):Option (List (DC T)):=
 match P.info? t with
 | some i=>match i.zero with
   | some z=>HK z.cells.toList
   | none=>none
 | none=>none
def WW:DC T→DC T
 | .c .nils => .c (.sl 0 [])
 | c=>c
def Sn:DV T→DV T
 | .c x=> .c (WW x)
 | .agg cs=> .agg (cs.map WW)
 | v=>v
def Mo (P:Program) (st:Az T) (d:Nat) (t:TypeId) (len:Nat) (ps:List (Nat×Operand)):M (Az T):=
 match EC P t,Sm st [] ps with
 | some (E,n,_),some vs=>match co P E with
   | some z=>match Z3 (fun i=>some (i*n,n)) ((List.replicate len z).flatMap id) (vs.map fun x=>(x.1,Sn x.2))with
     | some cs=>match Kw E len cs with
       | some l=>mIf (Nat.beq n (T.sz E)&&(Nat.beq z.length n&&(Nat.blt 0 n&&(Nat.ble (len*n) (2 ^ 24)&&Nat.beq cs.length (len*n))))) (HQ st d (.row E l) fun i=> .c (.osl i))
       | none=> .no
     | none=> .no
   | none=> .no
 | _,_=> .no
def Ph (P:Program) (st:Az T) (d:Nat) (t:TypeId) (l c:Int):M (Az T):=
 match EC P t with
 | some (E,n,by')=>match co P E with
   | some z=>match qx false E z with
     | some x=>mIf (Nat.beq n (T.sz E)&&(Nat.beq z.length n&&Nat.blt 0 n)) (.opt (need (0≤l∧l≤c∧c*by'≤140737488355328∧c≤maxLen)) fun _=>HQ st d (.row E (List.replicate l.toNat x)) fun i=> .c (.osl i))
     | none=> .no
   | none=> .no
 | none=> .no
def Uh:DC T→Option AC
 | .c (.osl id)=>some id
 | _=>none
theorem Kx {c:DC T} {id:AC} (h:Uh c=some id):c= .c (.osl id):=by
 unfold Uh at h
 split at h
 ·injection h with h;rw [h]
 ·cases h
def v6 (st:Az T) (E:Nat):DV T→Option (List (T.den E))
 | .c x=>match Uh x with
   | some id=>match Om st id with
     | some ⟨E',l⟩=>Qc false (.lst E) (.k (.lst E') l)
     | none=>none
   | none=>Qc false (.lst E) x
 | _=>none
def cp (P:Program) (st:Az T) (d:Nat) (t:TypeId) (u x:DV T):M (Az T):=
 match u,EC P t with
 | .c (.c (.osl id)),some (E',n,by')=>match Om st id with
   | some ⟨E,l⟩=>match v6 st E x with
     | some m=>mIf (Nat.beq E' E&&(Nat.beq n (T.sz E)&&Nat.blt 0 n)) (.opt (app by' l m) fun r=>match st.new id (.row E r)with
       | some s=> .ret (s.put (some d) (.c (.c (.osl id))))
       | none=> .no)
     | none=> .no
   | none=> .no
 | _,_=> .no
def v7 (P:Program) (st:Az T) (o:Oper):M (Az T):=
 match o.op with
 | .store t x y=>match st.arg [] x,st.arg [] y with
   | some p,some v=>kg P t o.dst st p (fV y v)
   | _,_=> .no
 | op=>match o.dst with
   | none=> .no
   | some d=>match op with
     | .alloc t=>match cl P t with
       | some cs=>HQ st d (.box cs) fun i=> .c (.ptr i 0)
       | none=> .no
     | .box _ x=>match st.arg [] x with
       | some v=>match v.cells with
         | some cs=>HQ st d (.box cs) fun i=> .c (.ptr i 0)
         | none=> .no
       | none=> .no
     | .assign (.const (.slice none 0 0))=>match Em P o.type with
       | some (E,n)=>mIf (Nat.beq n (T.sz E)) (HQ st d (.row E []) fun i=> .c (.osl i))
       | none=> .no
     | .buildSlice t len ps=>Mo P st d t len ps.toList
     | .makeSlice t l c=>match st.arg [] l,st.arg [] c with
       | some (.c (.k (.int _) l)),some (.c (.k (.int _) c))=>Ph P st d t l c
       | _,_=> .no
     | .call c=>match c.callee,c.args.toList,c.argTypes.toList with
       | .builtin .append,[u,x],[t,t']=>match st.arg [] u,st.arg [] x with
         | some a,some b=>mIf (Nat.beq t t') (cp P st d t a b)
         | _,_=> .no
       | _,_,_=> .no
     | _=> .no
def Ef (H:A2 T) (P:Program) (st:Az T) (o:Oper) (st':Az T):Prop:=
 (∃ H',Nx H st H' st')∧(ef P st.toSt o).1∧Ch (ef P st.toSt o).2 st'.toSt∧st'.pre=st.pre
section
variable {H:A2 T} {P:Program} {st:Az T}
theorem Az.put_spec {H:A2 T} {st s:Az T} {H1:A2 T} (h:Nx H st H1 s) (d:Option Nat) {v:DV T} (hv:v.ok H1 s.nx): ∃ H',Nx H st H' (s.put d v):=by
 obtain⟨H2,h2⟩:=Az.put_nx h.ok d hv
 exact⟨H2,h.trans h2⟩
theorem B8 (s:Az T) (d:Option Nat) (v:DV T):(s.put d v).pre =s.pre:=by cases d<;>rfl
theorem Gm {d:Nat} {x:DX T} {v:AC→DC T} (hw:BV H st) (hx:x.ok) (hv: ∀ i,(v i).ok):
 Yl (HQ st d x v) (fun st'=>(∃ H',Nx H st H' st')∧Ch ((st.toSt.new (⟨d::st.pre,0,x⟩:DE T).toE).put (some d) (.c (v (d::st.pre)).toC)) st'.toSt∧st'.pre=st.pre):=by
 unfold HQ
 split
 ·rename_i s hs
  obtain⟨⟨H',hN⟩,h2,h3⟩:=Az.new_spec hw hx hs
  refine Yl.ret ⟨Az.put_spec hN _ (by simp only [DV.ok];exact hv _),?_,by rw [B8];exact h3⟩
  rw [Az.put_toSt]
  exact h2.put _ _
 ·exact Yl.no
theorem fX {v:DV T} {id:AC} {off:Nat} {e:AY} (he:st.toSt.look id=some e) (hr:e.row.isSome=true):UY st.toSt (.c (.ptr id off)) v.toV=(kf v).toV :=by
 unfold kf
 split
 ·simp only [DV.toV,DC.toC,UY,he]
  cases hx:e.row with
  | none=>rw [hx]at hr;cases hr
  | some x=>rfl
 ·rename_i hne
  unfold UY
  split
  ·rename_i hv
   exfalso
   cases v with
   | c x=>
     cases x with
     | c y=>
       simp only [DV.toV,DC.toC,V.c.injEq]at hv
       subst hv;exact hne rfl
     | k kd x=>cases kd<;>simp [DV.toV,DC.toC,B7]at hv
     | clo b f cs=>cases b<;>simp [DV.toV,DC.toC]at hv
     | _=>simp [DV.toV,DC.toC]at hv
   | _=>simp [DV.toV]at hv
  ·rfl
theorem fY {v:V} {id:AC} {off:Nat} {e:AY} (he:st.toSt.look id=some e) (hr:e.row=none):UY st.toSt (.c (.ptr id off)) v=v:=by
 unfold UY
 split
 ·simp only [he,hr]
 ·rfl
theorem ah {E:Nat} {x x':T.den E} {off:Nat} {cs:List (DC T)} (h:tF E x off cs=some x'):off+cs.length≤T.sz E∧(T.enc E x).take off++(A1 cs++(T.enc E x).drop (off+(A1 cs).length))=T.enc E x':=by
 unfold tF at h
 split at h
 ·rename_i hb
  refine⟨by simpa using hb,?_⟩
  rw [←(HM h).2 rfl,B2,B2,Hh,EL,HL,Bf]
 ·cases h
theorem kh {l:List C} {a b c:List C} (h:a++(b++c)=l) (hl:AJ l=true):AJ b=true:=by
 subst h
 rw [BN,BN]at hl
 simp only [Bool.and_eq_true]at hl
 exact hl.2.1
theorem oD (hw:BV H st) {t:TypeId} {d:Option Nat} {p v:DV T} (hv:v.ok H st.nx):
 Yl (kg P t d st p v) (fun st'=>(∃ H',Nx H st H' st')∧(FB P st.toSt t p.toV (UY st.toSt p.toV v.toV)).1∧(FB P st.toSt t p.toV (UY st.toSt p.toV v.toV)).2.put d .undef =st'.toSt∧st'.pre=st.pre):=by
 unfold kg
 split
 ·exact Yl.no
 ·rename_i ag n ht
  split
  ·rename_i id off
   split
   ·rename_i ds cs hb hc
    refine Yl.mIf fun hg=>Yl.ret ?_
    simp only [Bool.and_eq_true,Nat.beq_eq,Nat.ble_eq]at hg
    obtain⟨hl,_,e,h1,h2,h3⟩:=FC hb
    obtain⟨c1,c2⟩:=DV.cells_spec hc
    have hds:=Qe hw hb
    have hok:(DX.box (ds.take off++(cs++ds.drop (off+n)))).ok :=CI (NB hds _) (CI (c2 hv) (NC hds _))
    obtain⟨H1,hN⟩:=Az.setX_nx hw id hok
    refine⟨Az.put_spec hN _ (by simp only [DV.ok]),?_⟩
    simp only [DV.toV,DC.toC]
    rw [fY hl rfl]
    simp only [FB,c1,ht,hl]
    refine⟨⟨by rw [Bf];exact hg.1,by rw [Bf];exact hg.2⟩,?_,by rw [B8];rfl⟩
    rw [Az.put_toSt,Az.setX_toSt hw h1 h2 (cs:=(A1 ds).take off++A1 cs++(A1 ds).drop (off+(A1 cs).length)) (q:=AJ (A1 cs))]
    ·simp only [DV.toV]
    ·rw [DE.toE_box h3]
     simp only [DE.toE,AY.mk.injEq,Bool.false_and,and_true,true_and]
     rw [B2,B2,Hh,EL,List.append_assoc,Bf,hg.1]
   ·exact Yl.no
  ·rename_i id N i off
   split
   ·rename_i E l cs hr hc
    refine Yl.mIf fun hg=>Yl.opt fun x hx=>?_
    simp only [Bool.and_eq_true,Nat.beq_eq]at hg
    obtain⟨hN,hcs⟩:=hg
    subst hN
    split
    ·rename_i x' hp
     obtain⟨p1,p2⟩:=ah hp
     obtain⟨hl,_,e,h1,h2,h3⟩:=DJ hr
     obtain⟨c1,c2⟩:=DV.cells_spec hc
     obtain⟨s1,s2⟩:=Md (l:=l) (l':=l.set i.toNat x') (i:=i) (x:=x) (x':=x') (e:=T.enc E) (N:=T.sz E) (o:=off) (base:=0) (cs:=A1 cs) (pre:=[]) (post:=[]) (off:=i.toNat*T.sz E+off) (c0:=l.flatMap (T.enc E)) (c1:=(l.set i.toNat x').flatMap (T.enc E)) (by simp) rfl (by simp) rfl hx (fun y=>FZ E y) (by omega) (by rw [Bf];exact p1) p2
     obtain⟨H1,hN⟩:=Az.setX_nx hw id (x:= .row E (l.set i.toNat x')) trivial
     refine Yl.ret ⟨Az.put_spec hN _ (by simp only [DV.ok]),?_⟩
     simp only [DV.toV,DC.toC]
     rw [fX hl rfl]
     simp only [FB,c1,ht,hl]
     refine⟨⟨by rw [Bf];exact hcs,by rw [Bf,hcs]at s1;exact s1⟩,?_,by rw [B8];rfl⟩
     rw [s2,Az.put_toSt,Az.setX_toSt hw h1 h2 (cs:=(l.set i.toNat x').flatMap (T.enc E)) (q:=AJ (A1 cs))]
     ·simp only [DV.toV]
     ·rw [DE.toE_row h3]
      have:AJ (A1 cs)=true:=kh p2 (WC E x')
      simp only [DE.toE,this,List.length_set,Bool.and_self]
    ·exact Yl.no
   ·exact Yl.no
  ·rename_i id base m E i off
   split
   ·rename_i ds cs hb hc
    split
    ·rename_i l hdr
     refine Yl.mIf fun hg=>Yl.opt fun x hx=>?_
     simp only [Bool.and_eq_true,Nat.beq_eq,Nat.ble_eq]at hg
     split
     ·rename_i x' hp
      obtain⟨p1,p2⟩:=ah hp
      obtain⟨hl,_,e,h1,h2,h3⟩:=FC hb
      obtain⟨c1,c2⟩:=DV.cells_spec hc
      obtain⟨hlen,r,hr⟩:=EM hdr
      rw [EL]at hr
      have hfl:(l.flatMap (T.enc E)).length =m*T.sz E:=by rw [Cb (fun y=>FZ E y),hlen]
      have hpost:r=(A1 ds).drop (base+m*T.sz E):=by
       rw [←List.drop_drop,hr, ←hfl,List.drop_left]
      have hs:Uf i.toNat x' 0 l=l.set i.toNat x':=by rw [fW l 0 (Nat.zero_le _)];rfl
      have hle:base≤(A1 ds).length :=by rw [Bf];omega
      obtain⟨s1,s2⟩:=Md (l:=l) (l':=l.set i.toNat x') (i:=i) (x:=x) (x':=x') (e:=T.enc E) (N:=T.sz E) (o:=off) (base:=base) (cs:=A1 cs) (pre:=(A1 ds).take base) (post:=r) (off:=base+i.toNat*T.sz E+off) (c0:=A1 ds) (c1:=(A1 ds).take base++((l.set i.toNat x').flatMap (T.enc E)++r))
       (by rw [←hr,List.take_append_drop]) (by rw [List.length_take];omega) rfl rfl hx (fun y=>FZ E y) (by omega) (by rw [Bf];exact p1) p2
      have hds:=Qe hw hb
      have hok:(DX.box (ds.take base++(Mn E (Uf i.toNat x' 0 l)++ds.drop (base+m*T.sz E)))).ok :=CI (NB hds _) (CI (ae _ _) (NC hds _))
      obtain⟨H1,hN⟩:=Az.setX_nx hw id hok
      refine Yl.ret ⟨Az.put_spec hN _ (by simp only [DV.ok]),?_⟩
      simp only [DV.toV,DC.toC]
      rw [fY hl rfl]
      simp only [FB,c1,ht,hl]
      refine⟨⟨by rw [Bf];exact hg.1,by rw [Bf,hg.1]at s1;exact s1⟩,?_,by rw [B8];rfl⟩
      rw [s2,Az.put_toSt,Az.setX_toSt hw h1 h2 (cs:=(A1 ds).take base++((l.set i.toNat x').flatMap (T.enc E)++r)) (q:=AJ (A1 cs))]
      ·simp only [DV.toV]
      ·rw [DE.toE_box h3]
       simp only [DE.toE,AY.mk.injEq,Bool.false_and,and_true,true_and]
       rw [B2,B2,Hh,EL,Ug,hs,hpost]
     ·exact Yl.no
    ·exact Yl.no
   ·exact Yl.no
  ·exact Yl.no
end
end Go.PL
namespace Go.PL
open Go Go.RowKit
variable {T:C1}
section
variable {H:A2 T} {P:Program} {st:Az T}
theorem xF (hw:BV H st) {x:Operand} {v:DV T} (h:st.arg [] x=some v):v.ok H st.nx∧(st.toSt.arg true x).1∧(st.toSt.arg true x).2=v.toV:=
 Az.arg_spec (key:=[]) hw (fun _ hl=>by cases hl) h rfl
theorem Ui {t:TypeId} {cs:List (DC T)} (h:co P t=some cs):LV P t=some (A1 cs)∧Ci cs:=by
 unfold co at h
 unfold LV
 split at h
 ·rename_i i hi
  split at h
  ·rename_i z hz
   simp only [hi,hz]
   exact Mg h
  ·cases h
 ·cases h
theorem Ql {α:Type} (f:α→List (DC T)): ∀ l:List α,A1 (l.flatMap f)=l.flatMap (fun x=>A1 (f x))
 | []=>by simp [A1]
 | a::l=>by rw [List.flatMap_cons,B2,Ql f l,List.flatMap_cons]
theorem kj (z:List (DC T)) (hz:0<z.length) (n:Nat):A1 ((List.replicate n z).flatMap id)=Cg (A1 z) n:=by
 rw [Ql,Sf (fun x:List (DC T)=>A1 x) z rfl (by rw [Bf];exact hz)]
 rfl
theorem Pi (c:DC T):(WW c).toC =Gd c.toC:=by
 unfold WW
 split
 ·rfl
 ·rename_i hne
  cases c with
  | c x=>
    cases x with
    | nils=>exact(hne rfl).elim
    | _=>rfl
  | k kd x=>cases kd<;>rfl
  | clo b f cs=>cases b<;>simp [DC.toC,Gd]
  | _=>simp [DC.toC,Gd]
theorem kk (v:DV T):(Sn v).toV =v.toV.weak:=by
 cases v with
 | c x=>simp only [Sn,DV.toV,V.weak,Pi]
 | agg cs=>
   simp only [Sn,DV.toV,V.weak,CT,List.map_map]
   congr 1
   exact List.map_congr_left fun c _=>Pi c
 | _=>simp only [Sn,DV.toV,V.weak]
theorem qY (vs:List (Nat×DV T)):tC (vs.map fun x=>(x.1,Sn x.2))=(tC vs).map TT:=by
 simp only [tC,List.map_map]
 refine List.map_congr_left fun x _=>?_
 simp only [Function.comp,TT,kk]
theorem WX (hw:BV H st) {d:Nat} {t:TypeId} {len:Nat} {ps:List (Nat×Operand)}:
 Yl (Mo P st d t len ps) (fun st'=>(∃ H',Nx H st H' st')∧(B1 P st.toSt d t len ps).1∧Ch (B1 P st.toSt d t len ps).2 st'.toSt∧st'.pre=st.pre):=by
 unfold Mo
 split
 ·rename_i E n by' vs hs hp
  split
  ·rename_i z hz
   split
   ·rename_i cs hf
    split
    ·rename_i l hl
     refine Yl.mIf fun hg=>(Gm hw (x:= .row E l) (by exact trivial) (fun _=>by simp only [DC.ok])).mono fun st' h=>?_
     simp only [Bool.and_eq_true,Nat.beq_eq,Nat.blt_eq,Nat.ble_eq]at hg
     obtain⟨g1,g2,g3,g4,g5⟩:=hg
     subst g1
     obtain⟨h1,h2,h3⟩:=h
     obtain⟨p1,p2,p3⟩:=Mj (key:=[]) hw (fun _ hl=>by cases hl) rfl hp
     obtain⟨z1,z2⟩:=Ui hz
     obtain⟨f1,_⟩:=Pe hf
     rw [kj z (by omega),qY]at f1
     obtain⟨hlen,r,hr⟩:=EM hl
     have hrn:r=[]:=by
      have:=congrArg List.length hr
      rw [Bf,g5,List.length_append,Cb (fun y=>FZ E y),hlen]at this
      exact List.length_eq_zero_iff.1 (by omega)
     subst hrn
     rw [List.append_nil]at hr
     refine⟨h1,?_⟩
     change (st.toSt.parts true ps).1 at p2
     change (st.toSt.parts true ps).2=tC vs at p3
     simp only [B1,hs,z1,p3,f1]
     refine⟨⟨p2,by rw [Bf];exact g2,g3,g4⟩,?_,h3⟩
     rw [hr,ov]
     simp only [DE.toE,hlen,DC.toC]at h2
     exact h2
    ·exact Yl.no
   ·exact Yl.no
  ·exact Yl.no
 ·exact Yl.no
theorem Yz (hw:BV H st) {d:Nat} {t:TypeId} {l c:Int} {k k':IntKind}:
 Yl (Ph P st d t l c) (fun st'=>(∃ H',Nx H st H' st')∧(LZ P st.toSt d t (.c (.int k l)) (.c (.int k' c))).1∧Ch (LZ P st.toSt d t (.c (.int k l)) (.c (.int k' c))).2 st'.toSt∧st'.pre=st.pre):=by
 unfold Ph
 split
 ·rename_i E n by' hs
  split
  ·rename_i z hz
   split
   ·rename_i x hx
    refine Yl.mIf fun hg=>Yl.opt fun u hu=>(Gm hw (x:= .row E (List.replicate l.toNat x)) (by exact trivial) (fun _=>by simp only [DC.ok])).mono fun st' h=>?_
    simp only [Bool.and_eq_true,Nat.beq_eq,Nat.blt_eq]at hg
    obtain⟨g1,g2,g3⟩:=hg
    subst g1
    obtain⟨h1,h2,h3⟩:=h
    obtain⟨z1,z2⟩:=Ui hz
    obtain⟨n1,n2,n3,n4⟩:=Ma hu
    refine⟨h1,?_⟩
    simp only [LZ,hs,z1]
    refine⟨⟨n1,n2,n3,n4,by rw [Bf];exact g2,g3⟩,?_,h3⟩
    have hzx:=(HM hx).2 rfl
    have:=Sf (T.enc E) x hzx (by rw [Bf];omega) l.toNat
    rw [this]
    simp only [DE.toE,List.length_replicate,DC.toC]at h2
    exact h2
   ·exact Yl.no
  ·exact Yl.no
 ·exact Yl.no
theorem oE {E:Nat} {x:DV T} {m:List (T.den E)} (h:v6 st E x=some m):PU st.toSt (T.sz E) x.toV=some (m.length,m.flatMap (T.enc E),true):=by
 have hl: ∀ {E':Nat} {l:List (T.den E')} {m:List (T.den E)},Qc (T:=T) false (.lst E) (.k (.lst E') l)=some m→(C.sl l.length (l.flatMap (T.enc E'))=C.sl m.length (m.flatMap (T.enc E)))∧T.sz E'=T.sz E∧l.length=m.length:=by
  intro E' l m hc
  unfold Qc at hc
  simp only at hc
  split at hc
  ·rename_i e _
   subst e
   injection hc with hc
   subst hc
   exact⟨rfl,rfl,rfl⟩
  ·cases hc
 unfold v6 at h
 split at h
 ·rename_i y
  split at h
  ·rename_i id ho
   have:=Kx ho
   subst this
   split at h
   ·rename_i E' l hr
    obtain⟨a,b,c⟩:=hl h
    injection a with a1 a2
    simp only [DV.toV,DC.toC,PU,(DJ hr).1,b,if_true]
    rw [a1,a2]
   ·cases h
  ·have:=(Kv h).2 rfl
   simp only [B7]at this
   simp only [DV.toV,this,PU]
   rw [if_pos (Cb (fun y=>FZ E y) m)]
 ·cases h
theorem kl (hw:BV H st) {d:Nat} {t:TypeId} {u x:DV T}:
 Yl (cp P st d t u x) (fun st'=>(∃ H',Nx H st H' st')∧(EU P st.toSt d t u.toV x.toV).1∧Ch (EU P st.toSt d t u.toV x.toV).2 st'.toSt∧st'.pre=st.pre):=by
 unfold cp
 split
 ·rename_i id E' n by' hs
  split
  ·rename_i E l hr
   split
   ·rename_i m hm
    refine Yl.mIf fun hg=>Yl.opt fun r hra=>?_
    simp only [Bool.and_eq_true,Nat.beq_eq,Nat.blt_eq]at hg
    obtain⟨g1,g2,g3⟩:=hg
    subst g1 g2
    split
    ·rename_i s hn
     obtain⟨⟨H',hN⟩,h2,h3⟩:=Az.new_spec hw (x:= .row E' r) trivial hn
     refine Yl.ret ⟨Az.put_spec hN _ (by simp only [DV.ok,DC.ok]),?_⟩
     have hb:=DI hra
     have hx:=Wp hra
     simp only [DV.toV,DC.toC,EU,hs,(DJ hr).1,oE hm,true_and]
     refine⟨⟨g3,hb.1,hb.2⟩,?_,by rw [B8];exact h3⟩
     rw [Az.put_toSt]
     simp only [DE.toE,hx,List.length_append,List.flatMap_append]at h2
     simp only [DV.toV,DC.toC,Bool.and_self]
     exact h2.put _ _
    ·exact Yl.no
   ·exact Yl.no
  ·exact Yl.no
 ·exact Yl.no
theorem tG (hw:BV H st) (o:Oper):Yl (v7 P st o) (Ef H P st o):=by
 have A: ∀ {x:Operand} {v:DV T},st.arg [] x=some v→v.ok H st.nx∧(st.toSt.arg true x).1∧(st.toSt.arg true x).2=v.toV:=fun h=>xF hw h
 obtain⟨dst,op,ty,pos,aft,gd⟩:=o
 unfold v7
 simp only
 split
 ·rename_i t x y
  split
  ·rename_i p v hp hv
   obtain⟨a1,a2,a3⟩:=A hp
   obtain⟨b1,b2,b3⟩:=A hv
   have e:(fV y v).toV =jp y v.toV:=by
    unfold fV jp
    split<;>simp_all [DV.toV,DC.toC]
   have hok:(fV y v).ok H st.nx:=by
    unfold fV
    split
    ·simp only [DV.ok,DC.ok]
    ·exact b1
   refine(oD hw hok).mono fun st' h=>?_
   obtain⟨h1,h2,h3,h4⟩:=h
   refine⟨h1,?_,?_,h4⟩
   ·simp only [PL.ef,a3,b3, ←e];exact⟨a2,b2,h2⟩
   ·simp only [PL.ef,a3,b3, ←e];rw [h3];exact Ch.refl _
  ·exact Yl.no
 ·rename_i hns
  split
  ·exact Yl.no
  ·rename_i d
   split
   ·rename_i t
    split
    ·rename_i cs hz
     obtain⟨z1,z2⟩:=Ue hz
     refine(Gm hw (x:= .box cs) z2 (fun _=>by simp only [DC.ok])).mono fun st' h=>?_
     obtain⟨h1,h2,h3⟩:=h
     refine⟨h1,?_,?_,h3⟩
     ·simp only [PL.ef,z1]
     ·simp only [PL.ef,z1];simp only [DE.toE,DC.toC]at h2;exact h2
    ·exact Yl.no
   ·rename_i t x
    split
    ·rename_i v hv
     split
     ·rename_i cs hc
      obtain⟨b1,b2,b3⟩:=A hv
      obtain⟨c1,c2⟩:=DV.cells_spec hc
      refine(Gm hw (x:= .box cs) (c2 b1) (fun _=>by simp only [DC.ok])).mono fun st' h=>?_
      obtain⟨h1,h2,h3⟩:=h
      refine⟨h1,?_,?_,h3⟩
      ·simp only [PL.ef,b3,c1];exact⟨b2,trivial⟩
      ·simp only [PL.ef,b3,c1];simp only [DE.toE,DC.toC]at h2;exact h2
     ·exact Yl.no
    ·exact Yl.no
   ·split
    ·rename_i E n hs
     refine Yl.mIf fun hg=>(Gm hw (x:= .row E []) (by exact trivial) (fun _=>by simp only [DC.ok])).mono fun st' h=>?_
     have hg:=Nat.eq_of_beq_eq_true hg
     subst hg
     obtain⟨h1,h2,h3⟩:=h
     refine⟨h1,?_,?_,h3⟩
     ·simp only [PL.ef,hs]
     ·simp only [PL.ef,hs];simp only [DE.toE,DC.toC,List.length_nil,List.flatMap_nil]at h2;exact h2
    ·exact Yl.no
   ·rename_i t len ps
    refine(WX hw).mono fun st' h=>?_
    obtain⟨h1,h2,h3,h4⟩:=h
    exact⟨h1,by simpa only [PL.ef] using h2,by simpa only [PL.ef] using h3,h4⟩
   ·rename_i t l c
    split
    ·rename_i k l' k' c' hl hc
     obtain⟨a1,a2,a3⟩:=A hl
     obtain⟨b1,b2,b3⟩:=A hc
     simp only [DV.toV,DC.toC,B7]at a3 b3
     refine(Yz hw (k:=k) (k':=k')).mono fun st' h=>?_
     obtain⟨h1,h2,h3,h4⟩:=h
     refine⟨h1,?_,?_,h4⟩
     ·simp only [PL.ef,a3,b3];exact⟨a2,b2,h2⟩
     ·simp only [PL.ef,a3,b3];exact h3
    ·exact Yl.no
   ·rename_i c
    split
    ·rename_i u x t t' hcal hargs htys
     split
     ·rename_i a b ha hb
      obtain⟨a1,a2,a3⟩:=A ha
      obtain⟨b1,b2,b3⟩:=A hb
      refine Yl.mIf fun hg=>(kl hw).mono fun st' h=>?_
      have hg:=Nat.eq_of_beq_eq_true hg
      obtain⟨h1,h2,h3,h4⟩:=h
      refine⟨h1,?_,?_,h4⟩
      ·simp only [PL.ef,hcal,hargs,htys,a3,b3];exact⟨a2,b2,hg,h2⟩
      ·simp only [PL.ef,hcal,hargs,htys,a3,b3];exact h3
     ·exact Yl.no
    ·exact Yl.no
   ·exact Yl.no
end
end Go.PL
