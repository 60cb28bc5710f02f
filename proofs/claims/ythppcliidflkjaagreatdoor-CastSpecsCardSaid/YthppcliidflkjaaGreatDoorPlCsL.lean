/- The plain law of CastSpecs. -/
import Derived.Test.YthppcliidflkjaaGreatDoorPlCsX
import Derived.Test.YthppcliidflkjaaGreatDoorKrtoPlPx
namespace Go.PL
open Go
set_option linter.all false
theorem LA {σ ρ:Type} {B:σ→Option (σ⊕ρ)} (m:σ→Nat) (Inv:σ→Prop) (Pr:ρ→Prop) (hs: ∀ s,Inv s→(∃ s',B s=some (.inl s')∧Inv s'∧m s'<m s)∨ ∃ r,B s=some (.inr r)∧Pr r): ∀ (N:Nat) (s:σ),Inv s→m s<N→ ∃ r,iter B N s=some r∧Pr r
 | 0,_,_,h=>by omega
 | N+1,s,hi,h=>by
   rcases hs s hi with ⟨s',h1,h2,h3⟩ | ⟨r,h1,h2⟩
   ·rw [ZI h1];exact LA m Inv Pr hs N s' h2 (by omega)
   ·exact⟨r,WV h1,h2⟩
theorem QB {α:Type} {b:Nat} {l:List α} (hb:1≤b) (h:l.length*b≤140737488351232):U3 b [] l=some l:=by
 have:l.length*1≤l.length*b:=Nat.mul_le_mul_left _ hb
 rw [Qu (by simp [maxLen];omega)];rfl
structure pO (e:Bc):Prop where
 m:e.Mods.length*176≤140737488351232
structure nQ (a:Ar):Prop where
 m:a.Mods.length*176≤140737488351232
 s:a.Specs.length*144≤140737488351232
 e:a.Effects.length*560≤140737488351232
 x: ∀ e∈a.Effects,pO e
structure mw (c:Gb):Prop where
 s:c.Line.Subs.length*16≤140737488351232
 a: ∀ a∈c.Abilities,nQ a
theorem bW {a:Ar} (h:nQ a):E7 a=some a:=by
 unfold E7
 rw [QB (by omega) h.m]
 simp only [Option.bind_some]
 rw [QB (by omega) h.s]
 simp only [Option.bind_some]
 have he:=h.e
 have hit:iter (fun(v:Int×List Bc)=>B5 a v.1 v.2) FU (0,[])=some a.Effects:=by
  refine Uz (fun i=>((i:Int),a.Effects.take i)) a.Effects.length (by omega) (fun i hi=>?_) ?_ (by simp)
  ·simp only [B5]
   rw [if_pos (by simpa using hi),N8 hi]
   simp only [Option.bind_some]
   rw [QB (by omega) (h.x _ (List.getElem_mem hi)).m]
   simp only [Option.bind_some]
   rw [Qu (by
    simp only [List.length_take,List.length_cons,List.length_nil,maxLen]
    have:(min i a.Effects.length+1)*560≤a.Effects.length*560:=Nat.mul_le_mul_right _ (by omega)
    omega)]
   simp only [Option.bind_some]
   rw [FD (by omega) (by omega),List.take_add_one (l:=a.Effects),List.getElem?_eq_getElem hi]
   rfl
  ·simp only [B5]
   rw [if_neg (by simp)]
   simp
 rw [hit]
 rfl
theorem nR (a:Eg): ∃ b,Qy a=some b:=by
 obtain⟨r,h1,_⟩:=LA (B:=fun(v:Int)=>Ho a v) (fun i=>(5 - i).toNat) (fun i=>0≤i∧i≤5) (fun _=>True) (fun i hi=>by
  simp only [Ho]
  split
  ·rename_i h
   simp only [decide_eq_true_eq]at h
   have hl:a.Color.l.length=5:=rfl
   rw [Qt ⟨hi.1,by rw [hl];exact h⟩]
   have hw:=FD (x:=i+1) (by omega) (by omega)
   simp only [Option.bind_some,gd,hw]
   have fin:(∃ s':Int,(some (.inl (i+1)):Option (Int⊕(Unit⊕Unit)))=some (.inl s')∧(0≤s'∧s'≤5)∧(5 - s').toNat <(5 - i).toNat):=⟨_,rfl,by omega,by omega⟩
   repeat' split
   all_goals first
    | exact .inl fin
    | exact .inr ⟨_,rfl,trivial⟩
    | (simp only [Option.bind_some];split<;>first | exact .inl fin | exact .inr ⟨_,rfl,trivial⟩)
  ·exact .inr ⟨_,rfl,trivial⟩) FU 0 (by omega) (by unfold FU;omega)
 unfold Qy
 rw [h1]
 simp only [Option.bind_some]
 cases r<;>(repeat' split)<;>exact⟨_,rfl⟩
theorem fF (a:Eg): ∃ m,Gd a=some m:=by
 obtain⟨b,hb⟩:=nR a
 obtain⟨r,h1,_⟩:=LA (B:=fun(v:Int×Int×Int)=>C5 a v.1 v.2.1 v.2.2) (fun s=>(5 - s.2.2).toNat) (fun s=>0≤s.2.2∧s.2.2≤5) (fun _=>True) (fun s hi=>by
  simp only [C5]
  split
  ·rename_i h
   simp only [decide_eq_true_eq]at h
   have hl:a.Color.l.length=5:=rfl
   rw [Qt ⟨hi.1,by rw [hl];exact h⟩]
   have hw:=FD (x:=s.2.2+1) (by omega) (by omega)
   simp only [Option.bind_some,Cm,hw]
   refine .inl ?_
   split
   ·exact⟨_,rfl,by simp only;omega,by simp only;omega⟩
   ·exact⟨_,rfl,by simp only;omega,by simp only;omega⟩
  ·exact .inr ⟨_,rfl,trivial⟩) FU (0,1,0) (by simp) (by unfold FU;simp)
 unfold Gd
 rw [hb,h1]
 simp only [Option.bind_some]
 split<;>exact⟨_,rfl⟩
theorem bX {c:Gb} (h:mw c) (hl:c.Abilities.length≤12): ∃ t,E8 c=some t∧t.Abilities=c.Abilities:=by
 unfold E8
 obtain⟨m,hm⟩:=fF c.Cost
 rw [hm]
 simp only [Option.bind_some]
 rw [QB (by omega) h.s]
 simp only [Option.bind_some]
 have hit:iter (fun(v:Int×List Ar)=>B6 c v.1 v.2) FU (0,[])=some c.Abilities:=by
  refine Uz (fun i=>((i:Int),c.Abilities.take i)) c.Abilities.length (by omega) (fun i hi=>?_) ?_ (by simp)
  ·simp only [B6]
   rw [if_pos (by simpa using hi),N8 hi]
   simp only [Option.bind_some]
   rw [bW (h.a _ (List.getElem_mem hi))]
   simp only [Option.bind_some]
   rw [Qu (by simp [maxLen];omega)]
   simp only [Option.bind_some]
   rw [FD (by omega) (by omega),List.take_add_one (l:=c.Abilities),List.getElem?_eq_getElem hi]
   rfl
  ·simp only [B6]
   rw [if_neg (by simp)]
   simp
 rw [hit]
 exact⟨_,rfl,rfl⟩
theorem YE (t:Bq):I6 t=ED t:=by
 have hB:(fun(v:Int)=>HT t v)=fun(v:Int)=>Di t v:=by
  funext v
  simp only [HT,Di]
  split
  ·cases hx:Gk t.Abilities v with
   | none=>rfl
   | some e=>simp only [Option.bind_some]
  ·rfl
 unfold I6 ED
 rw [hB]
 rfl
theorem i9 {t:Bq} (hl:t.Abilities.length≤12): ∃ r,ED t=some r∧(r∈t.Abilities∨r.Specs=[]):=by
 unfold ED
 simp only [jn]
 obtain⟨r,h1,h2⟩:=LA (B:=fun(v:Int)=>Di t v) (fun i=>((t.Abilities.length:Int) - i).toNat) (fun i=>0≤i∧i≤t.Abilities.length) (fun r=>match r with
  | .inl _=>True
  | .inr a=>a∈t.Abilities) (fun i hi=>by
    simp only [Di]
    split
    ·rename_i h
     simp only [decide_eq_true_eq]at h
     obtain⟨k,rfl⟩: ∃ k:Nat,i=k:=⟨i.toNat,by omega⟩
     rw [N8 (by omega)]
     simp only [Option.bind_some]
     split
     ·exact .inr ⟨_,rfl,List.getElem_mem _⟩
     ·rw [FD (by omega) (by omega)]
      exact .inl ⟨_,rfl,by omega,by omega⟩
    ·exact .inr ⟨_,rfl,trivial⟩) FU 0 (by omega) (by unfold FU;omega)
 rw [h1]
 cases r with
 | inl _=>exact⟨_,rfl, .inr rfl⟩
 | inr a=>exact⟨a,rfl, .inl h2⟩
theorem Q1 {c:Gb} (h:mw c):Dm c=some true:=by
 unfold Dm
 split
 ·rfl
 ·rename_i hl
  simp only [decide_eq_true_eq]at hl
  obtain⟨t,ht,hta⟩:=bX h (by omega)
  rw [ht]
  simp only [Option.bind_some]
  obtain⟨r,hr,hm⟩:=i9 (t:=t) (by rw [hta];omega)
  have hs:r.Specs.length*144≤140737488351232:=by
   rcases hm with q | q
   ·rw [hta]at q;exact(h.a _ q).s
   ·rw [q];simp
  have h1:Gf t=some r.Specs:=by
   unfold Gf AM
   rw [hr]
   simp only [Option.bind_some]
   rw [if_pos ⟨by omega,by unfold maxLen;omega⟩]
   rfl
  have h2:Hq t=some r.Specs:=by
   unfold Hq
   rw [YE,hr]
   simp only [Option.bind_some]
   rw [QB (by omega) hs]
   rfl
  rw [h1,h2]
  simp only [Option.bind_some,bne_self_eq_false,Bool.false_eq_true,if_false]
  have hit:iter (fun(v:Int)=>Bn r.Specs r.Specs v) FU 0=some (.inl ()):=by
   refine Uz (fun i=>(i:Int)) r.Specs.length (by omega) (fun i hi=>?_) ?_ (by simp)
   ·simp only [Bn]
    rw [if_pos (by simpa using hi),N8 hi]
    simp only [Option.bind_some]
    rw [FD (by omega) (by omega)]
    simp
   ·simp only [Bn]
    rw [if_neg (by simp)]
  rw [hit]
  rfl
end Go.PL
