/- The plain law of BeginHands. -/
import Derived.Test.YtfmknfnfpeopeaaGreatDoorPlBhQ
namespace Go.PL
open Go
set_option linter.all false
set_option maxRecDepth 100000
theorem fT:Gl=some true:=by kernel_rfl
def S0 (k:Nat) (q:Int):Af:=ST true (D4 (1+k) k) [] (D4 1 k) [] (C7 1 k 0++C7 (1+k) k 1) ((1+k+k:Nat):Int) ((1+k+k:Nat):Int) q
theorem oe {k n:Nat} {u:Int} {l0 h0 l1 h1:List Int} {s:Af} (hn:n≤7) (hP:s.Players=[B6 l0 h0,B6 l1 h1]) (hT:s.Turn=1) (hS:s.Step=0) (hB:s.Begun=false) (e1:h1.length=min (7 - n) k) (e0:h0.length=min 7 k):
 DP (k:Int) (n:Int) u s true u=some true:=by
 unfold DP
 rw [hP,hT,hS,hB]
 simp only [if_true,beq_self_eq_true,Option.bind_some]
 rw [Wm,show AN [B6 l0 h0,B6 l1 h1] 1=some (B6 l1 h1)from Bl (k:=1) (by simp)]
 simp only [Option.bind_some]
 rw [AA (by omega) (by omega)]
 have g1:((B6 l1 h1).Hand.length :Int)=(if(7:Int) - (n:Int)<(k:Int)then(7:Int) - (n:Int)else(k:Int)):=by
  show (h1.length:Int)=_
  rw [e1]
  split<;>omega
 have g0:((B6 l0 h0).Hand.length :Int)=(if(7:Int)<(k:Int)then(7:Int)else(k:Int)):=by
  show (h0.length:Int)=_
  rw [e0]
  split<;>omega
 rw [←g1]
 simp only [beq_self_eq_true,if_true]
 rw [Wm,show AN [B6 l0 h0,B6 l1 h1] 0=some (B6 l0 h0)from Bl (k:=0) (by simp)]
 simp only [Option.bind_some]
 rw [←g0]
 simp
def jg (an:List (List Int)) (v:List Ba×Int×DT):=Dl an [1,0] v.1 v.2.1 v.2.2.1 v.2.2.2.1 v.2.2.2.2.1 v.2.2.2.2.2.1 v.2.2.2.2.2.2.1 v.2.2.2.2.2.2.2.1 v.2.2.2.2.2.2.2.2.1 v.2.2.2.2.2.2.2.2.2.1 v.2.2.2.2.2.2.2.2.2.2.1 v.2.2.2.2.2.2.2.2.2.2.2
theorem bw {an:List (List Int)} {w:Bool} {p u u2:Int} {s s2:Af} (hp:AN [(1:Int),0] p=some (wI w)) (hl:decide (p<(([(1:Int),0]:List Int).length :Int))=true)
 (h:iter (fun x=>Od an (wI w) x) FU (7,Oc s u)=some (.inl (Oc s2 u2))∨iter (fun x=>Od an (wI w) x) FU (7,Oc s u)=some (.inr (Oc s2 u2))):jg an (jL,p,Oc s u)=some (.inl (jL,Al (p+1),Oc s2 u2)):=by
 unfold jg Dl jn
 dsimp only [Oc]
 rw [if_pos hl,hp]
 simp only [Option.bind_some]
 show (iter (fun x=>Od an (wI w) x) FU (7,Oc s u)).bind _=_
 rcases h with h | h<;>rw [h]<;>rfl
theorem mV {an:List (List Int)} {k n:Nat} (hk:k≤12) (hn:n≤7) (q:Int) (ha:(k=0∧an=[])∨(1≤k∧an=List.replicate n [1]++(if n<7 then [[0]]else [])++[[0]])):
 ∃ l0 h0 l1 h1 os n2 m2 q2,iter (fun v=>jg an v) FU (jL,0,Oc (SB (B6 (D4 1 k) []) (B6 (D4 (1+k) k) []) (C7 1 k 0++C7 (1+k) k 1) ((1+k+k:Nat):Int) ((1+k+k:Nat):Int) q) 0)=some (Oc (SB (B6 l0 h0) (B6 l1 h1) os n2 m2 q2) (an.length:Int))∧h1.length=min (7 - n) k∧h0.length=min 7 k:=by
 have iv:=oD k hk
 rcases ha with ⟨rfl,rfl⟩ | ⟨hk1,ha⟩
 ·obtain⟨os1,n1,m1,e1,iv1,e2,e3⟩:=Yr (an:=[]) (v:=7) (u:=0) (m:=((1+0+0:Nat):Int)) (q:=q) (by omega) (by omega) iv (by omega) (by omega)
  have iv1':=iv1.swap
  obtain⟨os2,n2,m2,f1,iv2,f2,f3⟩:=Yr (an:=[]) (v:=7) (u:=0) (m:=m1) (q:=q) (by omega) (by omega) iv1' (by omega) (by omega)
  rw [←ST.swap]at f1
  refine⟨[],[],[],[],os2,n2,m2,q,?_,by simp,by simp⟩
  exact Vg (bw (w:=true) rfl rfl (.inr (Yp e1))) (bw (w:=false) rfl rfl (.inr (Yp f1))) rfl
 ·have hlen:an.length=n+(if n<7 then 1 else 0)+1:=by
   rw [ha]
   split<;>simp
  have a1: ∀ j,j<n→an[0+j]? =some [1]:=fun j hj=>by
   rw [ha,List.append_assoc,Nat.zero_add,List.getElem?_append_left (by simpa using hj),List.getElem?_replicate,if_pos hj]
  have a2:n<7→an[0+n]? =some [0]:=fun h7=>by
   rw [ha,if_pos h7,List.append_assoc,Nat.zero_add,List.getElem?_append_right (by simp)]
   simp
  obtain⟨l1,h1,os1,n1,m1,q1,u1,e1,iv1,e2,e3,e4,e5⟩:=refuse (an:=an) (m:=((1+k+k:Nat):Int)) (q:=q) hk1 hk (by rw [hlen];split<;>omega) n 7 0 FU hn (by omega) (by unfold FU;omega) a1 a2 iv (by omega) (by omega)
  have iv1':=iv1.swap
  have a3:(0:Nat)<7→an[u1+0]? =some [0]:=fun _=>by
   have hu:u1=(List.replicate n [(1:Int)]++(if n<7 then [[0]]else [])).length :=by
    rw [e3]
    split<;>simp
   rw [ha,hu,Nat.add_zero,List.getElem?_append_right (Nat.le_refl _)]
   simp
  obtain⟨l0,h0,os2,n2,m2,q2,u2,f1,iv2,f2,f3,f4,f5⟩:=refuse (an:=an) (m:=m1) (q:=q1) hk1 hk (by rw [hlen];split<;>omega) 0 7 u1 FU (by omega) (by omega) (by unfold FU;omega) (fun j hj=>by omega) a3 iv1' (by omega) (by omega)
  rw [←ST.swap]at f1
  have hu2:u2=an.length:=by
   rw [f3,e3,hlen]
   simp
  subst hu2
  refine⟨l0,h0,l1,h1,os2,n2,m2,q2,?_,e2,by rw [f2]⟩
  exact Vg (bw (w:=true) rfl rfl e1) (bw (w:=false) rfl rfl f1) rfl
theorem mW {an:List (List Int)} {k n:Nat} (hk:k≤12) (hn:n≤7) (q:Int) (ha:(k=0∧an=[])∨(1≤k∧an=List.replicate n [1]++(if n<7 then [[0]]else [])++[[0]])):
 DQ (k:Int) (n:Int) (S0 k q,(0:Int)) (an.length:Int) 0 0 0 0 0 0 0 false false an=some true:=by
 obtain⟨l0,h0,l1,h1,os,n2,m2,q2,e,e1,e0⟩:=mV hk hn q ha
 have iv:=oD k hk
 obtain⟨k1,k2⟩:=iv.okP hk
 have hlen:=iv.len
 unfold DQ jn
 rw [show S0 k q=SB (B6 (D4 1 k) []) (B6 (D4 (1+k) k) []) (C7 1 k 0++C7 (1+k) k 1) ((1+k+k:Nat):Int) ((1+k+k:Nat):Int) q from rfl,SE k2 k1 (by omega)]
 simp only [Option.bind_some]
 have ho: ∀ (p0 p1:List Int) (os:List Aa) (n m q:Int),Gj (SB (B6 p0 []) (B6 p1 []) os n m q)=some [1,0]:=fun p0 p1 os n m q=>by kernel_rfl
 show (Gj (SB (B6 (D4 1 k) []) (B6 (D4 (1+k) k) []) (C7 1 k 0++C7 (1+k) k 1) ((1+k+k:Nat):Int) ((1+k+k:Nat):Int) q)).bind _=_
 rw [ho]
 generalize SB (B6 (D4 1 k) []) (B6 (D4 (1+k) k) []) (C7 1 k 0++C7 (1+k) k 1) ((1+k+k:Nat):Int) ((1+k+k:Nat):Int) q=s0 at e ⊢
 obtain⟨f1,f2,f3,f4,f5,f6,f7,f8,f9,f10,f11,f12,f13,f14,f15,f16,f17,f18,f19⟩:=s0
 show (iter (fun v=>jg an v) FU (jL,0,Oc _ 0)).bind _=_
 rw [e]
 simp only [Option.bind_some]
 unfold Gn
 dsimp only [Oc]
 unfold Gm jn
 simp only [Option.bind_some]
 rw [if_pos (by rfl),fT]
 simp only [Option.bind_some]
 rw [if_pos (by rfl),if_neg (by simp)]
 exact oe hn rfl rfl rfl rfl e1 e0
theorem jh {an:List (List Int)} (hl:an.length≤20) (hs: ∀ a∈an,a.length≤1000):iter (fun(v:Int×Int×Int×Int×Int×Int×Int×Int×Bool×Bool×(List (List (Int))))=>Bx an v.1 v.2.1 v.2.2.1 v.2.2.2.1 v.2.2.2.2.1 v.2.2.2.2.2.1 v.2.2.2.2.2.2.1 v.2.2.2.2.2.2.2.1 v.2.2.2.2.2.2.2.2.1 v.2.2.2.2.2.2.2.2.2.1 v.2.2.2.2.2.2.2.2.2.2) FU ((0:Int),(0:Int),(0:Int),(0:Int),(0:Int),(0:Int),(0:Int),(0:Int),false,false,([]:List (List (Int))))=some (0,0,0,0,0,0,0,false,false,an):=by
 refine GK (fun i=>((i:Int),0,0,0,0,0,0,0,false,false,an.take i)) an.length (by omega) (fun i hi=>?_) ?_ rfl
 ·show Bx an (i:Int) 0 0 0 0 0 0 0 false false (an.take i)=_
  unfold Bx
  rw [if_pos (by simpa using hi),Bl hi]
  simp only [Option.bind_some]
  rw [bk (hs _ (List.getElem_mem hi))]
  simp only [Option.bind_some]
  rw [LW (by simp;omega) (by omega),AA (by omega) (by omega),List.take_succ_eq_append_getElem hi]
  rfl
 ·show Bx an (an.length:Int) 0 0 0 0 0 0 0 false false (an.take an.length)=_
  unfold Bx
  rw [if_neg (by simp),List.take_length]
theorem SG (a0 a1 a2:Int):D3 a0 a1 a2=some true:=by
 unfold D3
 simp only [Option.bind_some]
 by_cases hb:0≤a0∧a0≤12∧0≤a1∧a1≤7
 case neg=>
  rw [if_pos (by
   by_cases h1:a0<0
   ·simp [h1]
   by_cases h2:12<a0
   ·simp [h1,h2]
   by_cases h3:a1<0
   ·simp [h1,h2,h3]
   by_cases h4:7<a1
   ·simp [h1,h2,h3,h4]
   omega),fT]
  rfl
 case pos=>
  rw [if_neg (by
   rw [if_neg (by rw [if_neg (by rw [if_neg (by simp;omega)];simp;omega)];simp;omega)]
   simp;omega)]
  obtain⟨k,rfl⟩: ∃ k:Nat,a0=(k:Int):=⟨a0.toNat,by omega⟩
  obtain⟨n,rfl⟩: ∃ n:Nat,a1=(n:Int):=⟨a1.toNat,by omega⟩
  have hk:k≤12:=by omega
  have hn:n≤7:=by omega
  obtain⟨q,hq⟩:=od hk a2
  change _=some (S0 k q,0)at hq
  rw [lP hk]
  simp only [Option.bind_some]
  rw [hq]
  simp only [Option.bind_some]
  rw [if_neg (by simp)]
  unfold jn
  have hfin: ∀ an:List (List Int),an.length≤20→(∀ a∈an,a.length≤1000)→((k=0∧an=[])∨(1≤k∧an=List.replicate n [1]++(if n<7 then [[0]]else [])++[[0]]))→
   DR (k:Int) (n:Int) (S0 k q,(0:Int)) (an.length:Int) an=some true:=fun an h1 h2 h3=>by
   unfold DR jn
   rw [jh h1 h2]
   exact mW hk hn q h3
  rcases Nat.eq_zero_or_pos k with h0 | h0
  ·subst h0
   have l1:iter (fun(v:Int×(List (List (Int))))=>AY ((0:Nat):Int) (n:Int) v.1 v.2) FU ((0:Int),([]:List (List (Int))))=some []:=Yp (by
    unfold AY
    simp only [Option.bind_some]
    rw [if_neg (by simp)])
   rw [l1]
   show Cb ((0:Nat):Int) (n:Int) _ []=_
   unfold Cb jn
   simp only [Option.bind_some]
   rw [if_neg (by simp)]
   unfold CI jn
   dsimp only
   rw [if_neg (by simp)]
   exact hfin [] (by simp) (by simp) (.inl ⟨rfl,rfl⟩)
  ·have l1:iter (fun(v:Int×(List (List (Int))))=>AY (k:Int) (n:Int) v.1 v.2) FU ((0:Int),([]:List (List (Int))))=some (List.replicate n [1]):=by
    refine GK (fun i=>((i:Int),List.replicate i [1])) n (by omega) (fun i hi=>?_) ?_ rfl
    ·show AY (k:Int) (n:Int) (i:Int) (List.replicate i [1])=_
     unfold AY
     simp only [Option.bind_some]
     rw [if_pos (by rw [if_pos (by simp;omega)];simp;omega),LW (by simp;omega) (by omega),AA (by omega) (by omega)]
     simp only [Option.bind_some]
     rw [←List.replicate_succ']
     rfl
    ·show AY (k:Int) (n:Int) (n:Int) (List.replicate n [1])=_
     unfold AY
     simp only [Option.bind_some]
     rw [if_neg (by rw [if_neg (by simp)];simp)]
   rw [l1]
   show Cb (k:Int) (n:Int) _ (List.replicate n [1])=_
   have j12: ∀ l:List (List Int),l.length≤10→l=List.replicate n [1]++(if n<7 then [[0]]else [])→CI (k:Int) (n:Int) (S0 k q,(0:Int)) l=some true:=fun l hl he=>by
    unfold CI jn
    dsimp only
    rw [if_pos (by simp;omega),LW (by simp;omega) (by omega),AA (by omega) (by omega)]
    have:=hfin (l++[[0]]) (by simp;omega) (fun a ha=>by
     rw [he]at ha
     rcases List.mem_append.1 ha with ha | ha
     ·rcases List.mem_append.1 ha with ha | ha
      ·rw [List.eq_of_mem_replicate ha];simp
      ·split at ha
       ·have:a=[0]:=by simpa using ha
        rw [this];simp
       ·cases ha
     ·have:a=[0]:=by simpa using ha
      rw [this];simp) (.inr ⟨h0,by rw [he]⟩)
    have hl1:((l++[[0]]).length :Int)=(l.length:Int)+1:=by simp
    rw [hl1]at this
    exact this
   unfold Cb jn
   simp only [Option.bind_some]
   by_cases h7:n<7
   ·rw [if_pos (by rw [if_pos (by simp;omega)];simp;omega),LW (by simp;omega) (by omega)]
    exact j12 _ (by simp;omega) (by rw [if_pos h7])
   ·rw [if_neg (by rw [if_neg (by simp;omega)];simp)]
    exact j12 _ (by simp;omega) (by rw [if_neg h7,List.append_nil])
end Go.PL
