/- The plain law of BeginHands: hands decided about. -/
import Derived.Test.YtfmknfnfpeopeaaGreatDoorPlBhP
namespace Go.PL
open Go
set_option linter.all false
set_option maxRecDepth 100000
def jL:List Ba:=[⟨10,0,0⟩,⟨9,0,0⟩]
theorem je (w:Bool):HF ⟨11,wI w,0,0,0,0,jL⟩=some false:=by cases w<;>kernel_rfl
theorem lQ (w:Bool) (x:Int) (hx:x=0∨x=1):KR ⟨11,wI w,0,0,0,0,jL⟩ [x]=some true:=by rcases hx with rfl | rfl<;>cases w<;>kernel_rfl
abbrev DT:=Af×Int×Int×Int×Int×Int×Int×Int×Bool×Bool
def Oc (s:Af) (u:Int):DT:=(s,u,0,0,0,0,0,0,false,false)
def Od (an:List (List Int)) (w:Int) (v:Int×DT):=BW an jL w v.1 v.2.1 v.2.2.1 v.2.2.2.1 v.2.2.2.2.1 v.2.2.2.2.2.1 v.2.2.2.2.2.2.1 v.2.2.2.2.2.2.2.1 v.2.2.2.2.2.2.2.2.1 v.2.2.2.2.2.2.2.2.2.1 v.2.2.2.2.2.2.2.2.2.2
section
variable {w:Bool} {l h l' h':List Int} {os:List Aa} {n m q:Int} {z:Nat} {an:List (List Int)}
theorem jf {s:Af} {u:Int}:Od an (wI w) (0,Oc s u)=some (.inr (.inl (Oc s u))):=by
 unfold Od BW
 rw [if_neg (by simp)]
theorem Yr {v:Nat} {u:Int} (hv:1≤v) (hv7:v≤7) (iv:Iv w l [] l' h' os n 0) (h0:0≤n) (h1:n+100≤1000000):
 ∃ os2 n2 m2,Od an (wI w) ((v:Int),Oc (ST w l [] l' h' os n m q) u)=some (.inr (.inr (Oc (ST w [] [] l' h' os2 n2 m2 q) u)))∧Iv w [] [] l' h' os2 n2 0∧n≤n2∧n2≤n+19:=by
 obtain⟨l2,h2,os2,n2,m2,e1,iv2,e2,e3,e4⟩:=drawn (k:=v) (m:=m) (q:=q) (by omega) (by omega) iv h0 (by omega)
 have hs:=iv2.sz
 have:l2=[]:=List.length_eq_zero_iff.1 (by omega)
 subst this
 have:h2=[]:=List.length_eq_zero_iff.1 (by omega)
 subst this
 refine⟨os2,n2,m2,?_,iv2,by omega,by omega⟩
 unfold Od BW
 dsimp only [Oc]
 rw [if_pos (by simp;omega),e1]
 simp only [Option.bind_some]
 rw [SF iv2 (by omega)]
 rfl
theorem Ys {v u:Nat} {x:Int} (hz1:1≤z) (hz:z≤12) (hv:1≤v) (hv7:v≤7) (hu:u<an.length) (hu9:an.length≤20) (hx:an[u]=[x]) (hx2:x=0∨x=1) (iv:Iv w l [] l' h' os n z) (h0:0≤n) (h1:n+100≤1000000):
 ∃ l2 h2 os2 n2 m2,Od an (wI w) ((v:Int),Oc (ST w l [] l' h' os n m q) (u:Int))=Fm (wI w) (v:Int) (ST w l2 h2 l' h' os2 n2 m2 q) [x] ((u+1:Nat):Int) 0 0 0 0 0 0 false false∧Iv w l2 h2 l' h' os2 n2 z∧h2.length=min v z∧n≤n2∧n2≤n+7:=by
 obtain⟨l2,h2,os2,n2,m2,e1,iv2,e2,e3,e4⟩:=drawn (k:=v) (m:=m) (q:=q) (by omega) hz iv h0 (by omega)
 have hs:=iv.sz
 have hh:h2.length=min v z:=by simp at hs e2;omega
 refine⟨l2,h2,os2,n2,m2,?_,iv2,hh,e3,by omega⟩
 unfold Od BW
 dsimp only [Oc]
 rw [if_pos (by simp;omega),e1]
 simp only [Option.bind_some]
 rw [SF iv2 hz]
 simp only [Option.bind_some]
 rw [if_neg (by simp;intro hq;rw [hq]at hh;simp at hh;omega)]
 unfold jn
 show (gd true (HF ⟨11,wI w,0,0,0,0,jL⟩)).bind _=_
 rw [Wm,je w]
 show (if((u:Int)==(an.length:Int))=true then none else _)=_
 rw [if_neg (by simp;omega),Bl hu,hx]
 simp only [Option.bind_some]
 rw [lQ w x hx2]
 simp only [Option.bind_some]
 rw [if_neg (by simp),bk (by simp),AA (by omega) (by omega)]
 rfl
theorem fS {v u:Nat} (hz1:1≤z) (hz:z≤12) (hv:1≤v) (hv7:v≤7) (hu:u<an.length) (hu9:an.length≤20) (hx:an[u]=[0]) (iv:Iv w l [] l' h' os n z) (h0:0≤n) (h1:n+100≤1000000):
 ∃ l2 h2 os2 n2 m2,Od an (wI w) ((v:Int),Oc (ST w l [] l' h' os n m q) (u:Int))=some (.inr (.inr (Oc (ST w l2 h2 l' h' os2 n2 m2 q) ((u+1:Nat):Int))))∧Iv w l2 h2 l' h' os2 n2 z∧h2.length=min v z∧n≤n2∧n2≤n+19:=by
 obtain⟨l2,h2,os2,n2,m2,e1,iv2,e2,e3,e4⟩:=Ys (m:=m) (q:=q) hz1 hz hv hv7 hu hu9 hx (.inl rfl) iv h0 h1
 exact⟨l2,h2,os2,n2,m2,by rw [e1];rfl,iv2,e2,e3,by omega⟩
theorem lR {v u:Nat} (hz1:1≤z) (hz:z≤12) (hv7:v+1≤7) (hu:u<an.length) (hu9:an.length≤20) (hx:an[u]=[1]) (iv:Iv w l [] l' h' os n z) (h0:0≤n) (h1:n+100≤1000000):
 ∃ l2 os2 n2 m2 q2,Od an (wI w) (((v+1:Nat):Int),Oc (ST w l [] l' h' os n m q) (u:Int))=some (.inl ((v:Int),Oc (ST w l2 [] l' h' os2 n2 m2 q2) ((u+1:Nat):Int)))∧Iv w l2 [] l' h' os2 n2 z∧n≤n2∧n2≤n+19:=by
 obtain⟨l2,h2,os2,n2,m2,e1,iv2,e2,e3,e4⟩:=Ys (v:=v+1) (m:=m) (q:=q) hz1 hz (by omega) hv7 hu hu9 hx (.inr rfl) iv h0 h1
 obtain⟨l3,os3,n3,m3,q3,f1,iv3,f2,f3⟩:=returned (m:=m2) (q:=q) hz iv2 (by omega) (by omega)
 refine⟨l3,os3,n3,m3,q3,?_,iv3,by omega,by omega⟩
 rw [e1]
 show (CX (ST w l2 h2 l' h' os2 n2 m2 q) (wI w)).bind _=_
 rw [f1,AA (by omega) (by omega)]
 simp only [Option.bind_some]
 rw [show (((v+1:Nat):Int) - 1)=(v:Int) by omega]
 rfl
theorem refuse (hz1:1≤z) (hz:z≤12) (hu9:an.length≤20): ∀ (r v u N:Nat) {l:List Int} {os:List Aa} {n m q:Int},r≤v→v≤7→r+1<N→(∀ j,j<r→an[u+j]? =some [1])→(r<v→an[u+r]? =some [0])→Iv w l [] l' h' os n z→0≤n→n+19*r+100≤100000→
 ∃ (l2 h2:List Int) (os2:List Aa) (n2 m2 q2:Int) (u2:Nat),(iter (fun x=>Od an (wI w) x) N ((v:Int),Oc (ST w l [] l' h' os n m q) (u:Int))=some (.inl (Oc (ST w l2 h2 l' h' os2 n2 m2 q2) (u2:Int)))∨iter (fun x=>Od an (wI w) x) N ((v:Int),Oc (ST w l [] l' h' os n m q) (u:Int))=some (.inr (Oc (ST w l2 h2 l' h' os2 n2 m2 q2) (u2:Int))))∧
   Iv w l2 h2 l' h' os2 n2 z∧h2.length=min (v - r) z∧u2=u+r+(if r<v then 1 else 0)∧n≤n2∧n2≤n+19*(r+1)
 | 0,v,u,N+1,l,os,n,m,q,hr,hv,hN,ha,hb,iv,h0,h1=>by
   rcases Nat.eq_zero_or_pos v with hv0 | hv0
   ·subst hv0
    refine⟨l,[],os,n,m,q,u, .inl (Fa jf),iv,by simp,by simp,by omega,by omega⟩
   ·have hb':=hb hv0
    rw [Nat.add_zero]at hb'
    obtain⟨hul,hx⟩:=List.getElem?_eq_some_iff.1 hb'
    obtain⟨l2,h2,os2,n2,m2,e1,iv2,e2,e3,e4⟩:=fS (m:=m) (q:=q) hz1 hz hv0 hv hul hu9 hx iv h0 (by omega)
    exact⟨l2,h2,os2,n2,m2,q,u+1, .inr (Fa e1),iv2,by rw [e2,Nat.sub_zero],by rw [if_pos hv0],e3,by omega⟩
 | r+1,v,u,N+1,l,os,n,m,q,hr,hv,hN,ha,hb,iv,h0,h1=>by
   obtain⟨v,rfl⟩: ∃ v',v=v'+1:=⟨v - 1,by omega⟩
   have ha0:=ha 0 (by omega)
   rw [Nat.add_zero]at ha0
   obtain⟨hul,hx⟩:=List.getElem?_eq_some_iff.1 ha0
   obtain⟨l2,os2,n2,m2,q2,e1,iv2,e3,e4⟩:=lR (m:=m) (q:=q) hz1 hz hv hul hu9 hx iv h0 (by omega)
   obtain⟨l3,h3,os3,n3,m3,q3,u3,f1,f2,f3,f4,f5,f6⟩:=refuse hz1 hz hu9 r v (u+1) N (m:=m2) (q:=q2) (by omega) (by omega) (by omega) (fun j hj=>by rw [show u+1+j=u+(j+1) by omega];exact ha (j+1) (by omega)) (fun hrv=>by rw [show u+1+r=u+(r+1) by omega];exact hb (by omega)) iv2 (by omega) (by omega)
   refine⟨l3,h3,os3,n3,m3,q3,u3,?_,f2,by rw [f3];congr 1;omega,?_,by omega,by omega⟩
   ·rw [Ju e1]
    exact f1
   ·rw [f4]
    by_cases hrv:r<v
    ·rw [if_pos hrv,if_pos (by omega)];omega
    ·rw [if_neg hrv,if_neg (by omega)];omega
end
end Go.PL
