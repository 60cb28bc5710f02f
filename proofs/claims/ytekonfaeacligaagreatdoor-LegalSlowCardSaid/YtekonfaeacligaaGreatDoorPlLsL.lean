/- The plain law of LegalSlow: whether a state fits is always answered; both say the same of slow actions. -/
import Derived.Test.YtekonfaeacligaaGreatDoorPlLsA
namespace Go.PL
open Go
set_option linter.all false
set_option maxRecDepth 100000
set_option maxHeartbeats 1000000
theorem bU {b:Bool} {i n:Nat} (hi:i<n) (hn:n<9223372036854775807):((if b then some (.inr (.inr false))else some (.inl (Aj ((i:Int)+1))):Option (Int⊕(Unit⊕Bool)))=some (.inl ((i:Int)+1))/\True)\/(if b then some (.inr (.inr false))else some (.inl (Aj ((i:Int)+1))):Option (Int⊕(Unit⊕Bool)))=some (.inr (.inr false)):=by rw [Ta (by omega)];cases b<;>simp
theorem An.tt (b:Bool):An (some b) True:=⟨b,rfl,fun _=>trivial⟩
theorem An.ot {o:Option Bool} (h:T o):An o True:=by obtain⟨b,rfl⟩:=h;exact An.tt b
theorem AbX {x:AI} (h:Sh x.N_):T (Mk x):=by
 unfold Mk jn;simp only [Option.bind_some];refine iO ⟨_,rfl⟩ (An.lp (K:=fun _=>OQ) (P:=fun _=>True) (Q:=True) x.N_.length h (fun i hi=>?_) ?_ (fun _=>An.tt _)).t
 ·unfold Iu;rw [if_pos (ib hi),AV hi];simp only [Option.bind_some,SE];exact bU hi h
 ·unfold Iu;rw [if_neg (by simp)]
theorem xT {l:List AI} (hl:Sh l) (h: ∀ e∈l,Sh e.N_):T (Fm l):=by
 unfold Fm jn;refine(An.lp (K:=fun _=>Jg l) (P:=fun _=>True) (Q:=True) l.length hl (fun i hi=>?_) ?_ (fun _=>An.tt _)).t
 ·obtain⟨r,hr⟩:=AbX (h _ (List.getElem_mem hi));unfold Fe;rw [if_pos (ib hi),AV hi];simp only [Option.bind_some,hr];exact bU hi hl
 ·unfold Fe;rw [if_neg (by simp)]
theorem uA {x:AB} (h1:Sh x.N_) (h2:Sh x.aam) (h3:Sh x.B_) (h4: ∀ e∈x.B_,Sh e.N_):T (Ff x):=by
 unfold Ff jn;obtain⟨r,hr⟩:=xT h3 h4;simp only [Option.bind_some,hr,SE];refine iO ⟨_,rfl⟩ (An.lp (K:=fun _=>JU x) (P:=fun _=>True) (Q:=True) x.N_.length h1 (fun i hi=>?_) ?_ (fun _=>?_)).t
 ·unfold Iz;rw [if_pos (ib hi),AV hi];simp only [Option.bind_some,SE];exact bU hi h1
 ·unfold Iz;rw [if_neg (by simp)]
 ·unfold JU jn;refine An.lp (K:=fun _=>O4) (P:=fun _=>True) (Q:=True) x.aam.length h2 (fun i hi=>?_) ?_ (fun _=>An.tt _)
  ·unfold Iy;rw [if_pos (ib hi),AV hi];simp only [Option.bind_some];exact bU hi h2
  ·unfold Iy;rw [if_neg (by simp)]
theorem uB {x:AB} (h:lh x):T (Ff x):=uA (h.m.sh (by decide)) (h.s.sh (by decide)) (h.e.sh (by decide)) fun e he=>(h.em e he).sh (by decide)
section
variable {s:AF}
theorem AbY (f:WE s):T (Mr s):=by
 have hc:Sh s.aae:=f.co.sh (by decide);have hw:Sh s.Td:=f.wa.sh (by decide);have hk:Sh s.Stack:=f.st.sh (by decide);have hp:Sh s.e_:=f.p.sh (by decide);have hJ6:T (Gl s):=by
  unfold Gl jn;refine(An.lp (K:=fun _=>O8) (P:=fun _=>True) (Q:=True) s.aae.length hc (fun i hi=>?_) ?_ (fun _=>An.tt _)).t
  ·unfold IA;rw [if_pos (ib hi),AV hi];simp only [Option.bind_some];generalize decide ((300:Int)<(s.aae[i].b_.length :Int))=g;cases g
   ·simp only [show (false==false)=true from rfl,ZN,Option.bind_some];obtain⟨r,hr⟩:=uA (x:=⟨(0:Int),(⟨(0:Int),(0:Int),(0:Int),(0:Int),(0:Int),(0:Int),(0:Int),[],(0:Int),(0:Int),(⟨(0:Int),(0:Int)⟩:Ag),(⟨(0:Int),(0:Int)⟩:Ag),(⟨(0:Int),(0:Int)⟩:Ag)⟩:Am),s.aae[i].N_,(⟨(⟨(0:Int),(0:Int),(⟨(0:Int),(0:Int),(0:Int),(0:Int),(0:Int)⟩:A5 (Int))⟩:AJ),false,false,(0:Int)⟩:CL),false,(⟨(0:Int),(0:Int),(⟨(0:Int),(0:Int),(0:Int),(0:Int),(0:Int),(0:Int),(0:Int),[],(0:Int),(0:Int),(⟨(0:Int),(0:Int)⟩:Ag),(⟨(0:Int),(0:Int)⟩:Ag),(⟨(0:Int),(0:Int)⟩:Ag)⟩:Am)⟩:Bu),false,([]:List (Dr)),([]:List (AI)),(⟨(0:Int),(0:Int),(⟨(0:Int),(0:Int),(0:Int),(0:Int),(0:Int),(0:Int),(0:Int),[],(0:Int),(0:Int),(⟨(0:Int),(0:Int)⟩:Ag),(⟨(0:Int),(0:Int)⟩:Ag),(⟨(0:Int),(0:Int)⟩:Ag)⟩:Am),(0:Int),(0:Int),(0:Int),(0:Int)⟩:Bk)⟩) ((f.coi _ (List.getElem_mem hi)).2.sh (by decide)) (by simp) (by simp) (fun e he=>by cases he);rw [hr];simp only [Option.bind_some];exact bU hi hc
   ·simp only [show (true==false)=false from rfl,dn,Option.bind_some];exact bU hi hc
  ·unfold IA;rw [if_neg (by simp)]
 have hJ5:T (Gm s):=by
  unfold Gm jn;refine(An.lp (K:=fun _=>Gl s) (P:=fun _=>True) (Q:=True) s.Td.length hw (fun i hi=>?_) ?_ (fun _=>An.ot hJ6)).t
  ·unfold IB;obtain⟨r,hr⟩:=uB (f.wai _ (List.getElem_mem hi));rw [if_pos (ib hi),AV hi];simp only [Option.bind_some,hr];exact bU hi hw
  ·unfold IB;rw [if_neg (by simp)]
 have hJ2: ∀ v,T (Gn s v):=by
  intro v;unfold Gn jn;simp only [Option.bind_some];refine iO ⟨_,rfl⟩ (An.lp (K:=fun _=>Gm s) (P:=fun _=>True) (Q:=True) s.Stack.length hk (fun i hi=>?_) ?_ (fun _=>An.ot hJ5)).t
  ·unfold IC;rw [if_pos (ib hi),AV hi];simp only [Option.bind_some];generalize decide ((20:Int)<(s.Stack[i].aaU.length :Int))=g;cases g
   ·simp only [show (false==false)=true from rfl,ZN,Option.bind_some];obtain⟨r,hr⟩:=uB (f.sti _ (List.getElem_mem hi)).1;rw [hr];simp only [Option.bind_some];exact bU hi hk
   ·simp only [show (true==false)=false from rfl,dn,Option.bind_some];exact bU hi hk
  ·unfold IC;rw [if_neg (by simp)]
 unfold Mr jn;have:W ((iter (fun(v:Int×Int)=>ID s v.1 v.2) FU ((Aj ((Aj ((Aj ((Aj ((Aj ((Aj ((s.b_.length:Int)+(s.Tl.length:Int)))+(s.ac5.length:Int)))+(s.Extra.length:Int)))+(Aj ((8:Int)*(s.Stack.length:Int)))))+(Aj ((8:Int)*(s.Td.length:Int)))))+(Aj ((4:Int)*(s.aae.length:Int))))),(0:Int))).bind (fun o0=>Gn s o0)) (fun _=>True):=by
  refine W.it (fun v=>0<=v.2/\v.2<=s.e_.length) (fun v=>((s.e_.length:Int) - v.2).toNat) ⟨by simp,by simp⟩ (by unfold Sh at hp;dsimp only;omega) (fun v hv=>?_);obtain⟨a,i⟩:=v;unfold Sh at hp;dsimp only at hv ⊢;unfold ID;simp only [Option.bind_some];refine W.if (fun hc=>?_) (fun hc=>?_)
  ·have hi:0<=i/\i<s.e_.length:=by
    refine⟨hv.1,?_⟩;by_cases h:i<(s.e_.length:Int)
    ·exact h
    ·simp [h]at hc
   rw [N8 hi];simp only [Option.bind_some];rw [A1 (x:=i+1) (by omega) (by omega)];exact W.nx ⟨by dsimp only;omega,by dsimp only;omega⟩ (by dsimp only;omega)
  ·refine W.ex ?_;obtain⟨r,hr⟩:=hJ2 a;exact⟨r,hr,trivial⟩
 obtain⟨r,hr,_⟩:=this;exact⟨r,hr⟩
end
theorem AdU {x:QB} (f:WE x.S) (hc:gT x.acf):T (J5 x):=by obtain⟨a,ha⟩:=AbY f;obtain⟨b,hb, -⟩:=AbW f x.acf;unfold J5;rw [ut hc,ha,hb];simp only [Option.bind_some,SE];exact iO ⟨_,rfl⟩ ⟨_,rfl⟩
theorem Xd {x:QB} (f:WE x.S) (hc:gT x.acf):DU x=some true:=by obtain⟨b,hb⟩:=AdU f hc;have hs:We x.S x.P=JS x.S x.P:=rfl;have ht:T (JS x.S x.P):=⟨_,rfl⟩;obtain⟨c,hc⟩:=ht;unfold DU VI;rw [hb,hs,hc];cases b<;>simp [SE]
end Go.PL
