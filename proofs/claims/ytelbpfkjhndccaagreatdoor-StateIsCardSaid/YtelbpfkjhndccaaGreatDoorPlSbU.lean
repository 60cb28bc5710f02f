/- Plain laws of states: effects, abilities. -/
import Derived.Test.YtelbpfkjhndccaaGreatDoorPlSbT
namespace Go.PL
open Go
set_option maxRecDepth 100000
set_option linter.all false
set_option maxHeartbeats 4000000
theorem T9 {α:Type} [Inhabited α] (l:List α) (q:α→Bool):((List.range l.length).all fun i=>q (l.getD i default))=l.all q:=by
 rw [Bool.eq_iff_iff,List.all_eq_true,List.all_eq_true]
 constructor
 ·intro h x hx
  obtain⟨i,hi,rfl⟩:=List.mem_iff_getElem.1 hx
  have:=h i (List.mem_range.2 hi)
  rwa [Cu hi]at this
 ·intro h i hi
  exact h _ (Wb (List.mem_range.1 hi))
theorem Ua {α:Type} [Inhabited α] {l:List α} {q:α→Bool} {B:Int→Option (Int⊕(Unit⊕Unit))} {K a:Option Bool} (hn:l.length<9223372036854775807)
 (hB: ∀ (i:Nat) (h:i<l.length),B (i:Int)=some (if q l[i]=true then .inl ((i:Int)+1)else .inr (.inr ()))) (hE:B (l.length:Int)=some (.inr (.inl ()))):
 (iter B FU 0).bind (Sum.elim (fun _=>K) (fun _=>a))=if l.all q=true then K else a:=by
 rw [Z8 (p:=fun i=>q (l.getD i default)) l.length hn (fun i hi=>by rw [hB i hi,Cu hi]) hE,T9]
theorem ah {b:Bool} {i:Nat} (hi:i<9223372036854775807):(if(!b)=true then some (.inr (.inr ()))else some (.inl (Ab ((i:Int)+1))):Option (Int⊕(Unit⊕Unit)))=some (if b=true then .inl ((i:Int)+1)else .inr (.inr ())):=by
 rw [BD (by omega) (by omega)]
 cases b<;>rfl
def pT (i:Int):Bool:=match K3 i with
 | some u=>(B7 i 114==some u.ref)&&((B7 i 97==some u.amount)&&((B7 i 107==some u.counter)&&((B7 i 122==some u.zone)&&((B7 i 99==some u.card)&&((B7 i 102==some u.filter)&&((B7 i 112==some u.pool)&&(B7 i 109==some u.mods)))))))
 | none=>false
theorem oD:((List.range 26).all fun i=>pT ((i:Int)+1))=true:=by kernel_rfl
def mE (i:Int):Bool:=match HU i,Nu i with
 | some a,some b=>a != []&&b != []
 | _,_=>false
theorem mF:((List.range 26).all fun i=>mE ((i:Int)+1))=true:=by kernel_rfl
theorem rG {k:Int} (h:1≤k∧k≤26): ∃ u,K3 k=some u∧B7 k 114=some u.ref∧B7 k 97=some u.amount∧B7 k 107=some u.counter∧B7 k 122=some u.zone∧B7 k 99=some u.card∧B7 k 102=some u.filter∧B7 k 112=some u.pool∧B7 k 109=some u.mods:=by
 have t:=List.all_eq_true.1 oD (k - 1).toNat (List.mem_range.2 (by omega))
 rw [Int.toNat_of_nonneg (by omega),show k - 1+1=k by omega]at t
 unfold pT at t
 split at t
 ·rename_i u hu
  simp only [Bool.and_eq_true,beq_iff_eq]at t
  exact⟨u,hu,t⟩
 ·cases t
theorem oE {k:Int} (h:1≤k∧k≤26): ∃ a b,HU k=some a∧Nu k=some b∧(a != [])=true∧(b==[])=false:=by
 have t:=List.all_eq_true.1 mF (k - 1).toNat (List.mem_range.2 (by omega))
 rw [Int.toNat_of_nonneg (by omega),show k - 1+1=k by omega]at t
 unfold mE at t
 split at t
 ·rename_i a b h1 h2
  rw [Bool.and_eq_true]at t
  exact⟨a,b,h1,h2,t.1,by have:=t.2;unfold bne at this;simpa using this⟩
 ·cases t
def zR:HQ:=⟨0,0,zF⟩
def zA:Bm:=⟨0,0,0,zF⟩
def zP:A6 Int:=⟨0,0,0,0,0,0⟩
def mG (r:HQ) (n:Int):Bool:=(Md r n).getD false
theorem pU (r:HQ) (n:Int):Md r n=some (mG r n):=by
 obtain⟨b,h⟩:=pR r n
 unfold mG;rw [h];rfl
theorem tt (r:HQ) (n:Int):QF r n=some (mG r n):=by rw [(mD r n).2,pU]
def mH (m:Bm):Bool:=(Gc m).getD false
theorem pV (m:Bm):Gc m=some (mH m):=by
 obtain⟨b,h⟩:=(dg m).1
 unfold mH;rw [h];rfl
theorem tu (m:Bm):QG m=some (mH m):=by rw [(dg m).2,pV]
def jZ (m:Bs):Bool:=(DS m).getD false
theorem pW (m:Bs):DS m=some (jZ m):=by
 obtain⟨b,h⟩:=tq m
 unfold jZ;rw [h];rfl
theorem tv (m:Bs):Oq m=some (jZ m):=by rw [rE m,pW]
def mI (m:AA):Bool:=(DR m).getD false
theorem pX (m:AA):DR m=some (mI m):=by
 obtain⟨b,h⟩:=tr m
 unfold mI;rw [h];rfl
theorem tw (m:AA):QI m=some (mI m):=by rw [rF m,pX]
def iw (a:A6 Int):Bool:=il (YI a)
theorem mJ (a:A6 Int): ∃ w,Hv a=some w∧IF a=some w∧(w==[])= !iw a∧(w != [])=iw a:=by
 have h:=jV (YI a)
 exact⟨_,rD a,ov a,h,by unfold bne;rw [h];exact Bool.not_not _⟩
theorem fX (l:List Bq): ∃ w,FI l=some w∧(w==[])= !L1 l∧(w != [])=L1 l:=by
 obtain⟨w,h1,h2⟩:=oz l
 exact⟨w,h1,h2,by unfold bne;rw [h2];exact Bool.not_not _⟩
theorem ai (l:List Bq): ∃ w,FK l=some w∧(w==[])= !L1 l∧(w != [])=L1 l:=by
 obtain⟨w,h1,h2⟩:=mA l
 exact⟨w,h1,h2,by unfold bne;rw [h2];exact Bool.not_not _⟩
def oF (u:BC) (a:Ar) (n:Int):Bool:=if u.ref=true then mG a.Ref n else a.Ref==zR
def fY (u:BC) (a:Ar):Bool:=if u.amount=true then mH a.Amount else a.Amount==zA
def dh (u:BC) (a:Ar):Bool:=if u.counter=true then jY a.Counter else a.Counter==0
def S2 (u:BC) (a:Ar):Bool:=if u.zone=true then decide (0≤a.Zone)&&decide (a.Zone≤4)else a.Zone==0
def S3 (u:BC) (a:Ar):Bool:=if u.card=true then NA a.Card else a.Card==[]
def N2 (u:BC) (a:Ar) (z:Int):Bool:=if u.filter=true then N1 a.Filter&&a.Filter.Zone==z else a.Filter==zF
def N3 (u:BC) (a:Ar):Bool:=if u.pool=true then !(a.Pool==zP)&&iw a.Pool else a.Pool==zP
def N4 (u:BC) (a:Ar):Bool:=if u.mods=true then L1 a.Mods else(a.Mods.length:Int)==0
theorem vh (b:Bool):EZ b=some (!b):=by cases b<;>rfl
theorem vi (a:Ar) (u:BC) (b:Bool):DW a u b=some (!b&&N4 u a):=by
 obtain⟨w,h1,h2,h3⟩:=fX a.Mods
 cases b
 ·unfold DW N4
  simp only [h1,vh,Rh]
  cases hu:u.mods
  ·simp
   cases a.Mods<;>simp
   omega
  ·simp only [beq_self_eq_true,if_true,h2,Option.bind_some]
   cases L1 a.Mods<;>rfl
 ·rfl
theorem vj (a:Ar) (u:BC) (b:Bool):DX a u b=some (!b&&(N3 u a&&N4 u a)):=by
 obtain⟨w,h1, -,h2,h3⟩:=mJ a.Pool
 cases b
 ·unfold DX N3
  rw [show (⟨0,0,0,0,0,0⟩:A6 Int)=zP from rfl]
  simp only [h1,vi,Rh]
  cases hu:u.pool
  ·cases a.Pool==zP<;>simp
  ·cases a.Pool==zP
   ·simp only [beq_self_eq_true,Bool.and_self,if_true,Bool.false_eq_true,if_false,h2,Option.bind_some]
    cases iw a.Pool<;>rfl
   ·rfl
 ·rfl
theorem vk (a:Ar) (u:BC) (z:Int) (b:Bool):DY a u z b=some (!b&&(N2 u a z&&(N3 u a&&N4 u a))):=by
 cases b
 ·unfold DY N2
  rw [show (⟨(0:Int),(0:Int),(0:Int),(0:Int),(0:Int),(0:Int),(0:Int),[],(0:Int),(0:Int),(⟨(0:Int),(0:Int)⟩:Ac),(⟨(0:Int),(0:Int)⟩:Ac),(⟨(0:Int),(0:Int)⟩:Ac)⟩:Ag)=zF from rfl]
  simp only [Ed,vj,Rh,bne]
  cases hu:u.filter
  ·cases a.Filter==zF<;>simp
  ·cases N1 a.Filter<;>cases a.Filter.Zone==z<;>simp
 ·rfl
theorem u5 (a:Ar) (u:BC) (z:Int) (b:Bool):DZ a u z b=some (!b&&(S3 u a&&(N2 u a z&&(N3 u a&&N4 u a)))):=by
 cases b
 ·unfold DZ S3
  simp only [mc,vk,Rh,bne]
  cases hu:u.card
  ·cases a.Card==[]<;>simp
  ·cases NA a.Card<;>simp
 ·rfl
theorem pY (a:Ar) (u:BC) (z:Int) (b:Bool):D0 a u z b=some (!b&&(S2 u a&&(S3 u a&&(N2 u a z&&(N3 u a&&N4 u a))))):=by
 cases b
 ·unfold D0 S2
  simp only [u5,Rh,bne,s8]
  cases hu:u.zone
  ·cases a.Zone==0<;>simp
  ·cases decide (0≤a.Zone)<;>cases decide (a.Zone≤4)<;>simp
 ·rfl
theorem j7 (a:Ar) (u:BC) (z:Int) (b:Bool):Eo a u z b=some (!b&&(dh u a&&(S2 u a&&(S3 u a&&(N2 u a z&&(N3 u a&&N4 u a)))))):=by
 obtain⟨w,h1,h2,h3⟩:=iv a.Counter
 cases b
 ·unfold Eo dh
  simp only [h1,pY,Rh,bne]
  cases hu:u.counter
  ·cases a.Counter==0<;>simp
  ·simp only [beq_self_eq_true,if_true,h2,Option.bind_some]
   cases jY a.Counter<;>rfl
 ·rfl
theorem j4 (a:Ar) (u:BC) (z:Int) (b:Bool):Ep a u z b=some (!b&&(fY u a&&(dh u a&&(S2 u a&&(S3 u a&&(N2 u a z&&(N3 u a&&N4 u a))))))):=by
 cases b
 ·unfold Ep fY
  rw [show (⟨(0:Int),(0:Int),(0:Int),(⟨(0:Int),(0:Int),(0:Int),(0:Int),(0:Int),(0:Int),(0:Int),[],(0:Int),(0:Int),(⟨(0:Int),(0:Int)⟩:Ac),(⟨(0:Int),(0:Int)⟩:Ac),(⟨(0:Int),(0:Int)⟩:Ac)⟩:Ag)⟩:Bm)=zA from rfl]
  simp only [pV,j7,Rh,bne]
  cases hu:u.amount
  ·cases a.Amount==zA<;>simp
  ·cases mH a.Amount<;>simp
 ·rfl
theorem j2 (a:Ar) (u:BC) (n z:Int):Er a u n z=some (oF u a n&&(fY u a&&(dh u a&&(S2 u a&&(S3 u a&&(N2 u a z&&(N3 u a&&N4 u a))))))):=by
 unfold Er oF
 rw [show (⟨(0:Int),(0:Int),(⟨(0:Int),(0:Int),(0:Int),(0:Int),(0:Int),(0:Int),(0:Int),[],(0:Int),(0:Int),(⟨(0:Int),(0:Int)⟩:Ac),(⟨(0:Int),(0:Int)⟩:Ac),(⟨(0:Int),(0:Int)⟩:Ac)⟩:Ag)⟩:HQ)=zR from rfl]
 simp only [pU,j4,Rh,bne]
 cases hu:u.ref
 ·cases a.Ref==zR<;>simp
 ·cases mG a.Ref n<;>simp
def PE (k:Int):Int:=if k=21 then 2 else 0
def oG (u:BC) (a:Ar) (n:Int):Bool:=oF u a n&&(fY u a&&(dh u a&&(S2 u a&&(S3 u a&&(N2 u a (PE a.Op)&&(N3 u a&&N4 u a))))))
theorem oH (a:Ar) (u:BC) (n:Int):KR a u n=some (oG u a n):=by
 unfold KR oG PE
 by_cases h:a.Op=21
 ·rw [if_pos (by simpa using h),if_pos h,j2]
 ·rw [if_neg (by simpa using h),if_neg h,j2]
def di (a:Ar) (n:Int):Bool:=(IU a n).getD false
theorem dj (a:Ar) (n:Int): ∃ b,IU a n=some b∧QK a n=some b:=by
 by_cases hk:1≤a.Op∧a.Op≤26
 ·obtain⟨w,v,h1,h2,h3,h4⟩:=oE hk
  obtain⟨u,k1,k2,k3,k4,k5,k6,k7,k8,k9⟩:=rG hk
  refine⟨oG u a n,?_,?_⟩
  ·unfold IU
   simp only [h1,k1,Option.bind_some,h3,Rh,if_true,beq_self_eq_true,oH]
  ·obtain⟨c,c1,c2,c3⟩:=mC a.Counter
   obtain⟨p, -,p1,p2,p3⟩:=mJ a.Pool
   obtain⟨m,m1,m2,m3⟩:=ai a.Mods
   have hf:Nz a.Op a.Filter=some (N1 a.Filter&&a.Filter.Zone==PE a.Op):=by
    unfold Nz Hw PE
    simp only [QN,Option.bind_some,Ph]
    by_cases h:a.Op=21
    ·rw [if_pos (by simpa using h),if_pos h]
    ·rw [if_neg (by simpa using h),if_neg h]
   have hm:QJ a.Mods=some (L1 a.Mods):=by
    unfold QJ
    rw [m1,Option.bind_some,m3]
   unfold QK
   rw [show (⟨(0:Int),(0:Int),(⟨(0:Int),(0:Int),(0:Int),(0:Int),(0:Int),(0:Int),(0:Int),[],(0:Int),(0:Int),(⟨(0:Int),(0:Int)⟩:Ac),(⟨(0:Int),(0:Int)⟩:Ac),(⟨(0:Int),(0:Int)⟩:Ac)⟩:Ag)⟩:HQ)=zR from rfl]
   have J22: ∀ b1 b2 b3 b4 b5 b6 b7 b8,JL b1 b2 b3 b4 b5 b6 b7 b8=some (b1&&b2&&b3&&b4&&b5&&b6&&b7&&b8):=fun b1 b2 b3 b4 b5 b6 b7 b8=>by
    unfold JL
    simp only [Option.bind_some,Ph]
   have J20: ∀ b1 b2 b3 b4 b5 b6 b7,JM a b1 b2 b3 b4 b5 b6 b7=some (b1&&b2&&b3&&b4&&b5&&b6&&b7&&N2 u a (PE a.Op)):=fun b1 b2 b3 b4 b5 b6 b7=>by
    unfold JM N2
    simp only [k7,hf,Option.bind_some,J22]
    cases u.filter<;>rfl
   have J18: ∀ b1 b2 b3 b4 b5 b6,JN a b1 b2 b3 b4 b5 b6=some (b1&&b2&&b3&&b4&&b5&&b6&&N3 u a&&N2 u a (PE a.Op)):=fun b1 b2 b3 b4 b5 b6=>by
    unfold JN N3
    rw [show (⟨0,0,0,0,0,0⟩:A6 Int)=zP from rfl]
    simp only [k8,p1,Rh,Option.bind_some,J20]
    cases u.pool
    ·rfl
    ·cases a.Pool==zP<;>simp [p3]
   have J16: ∀ b1 b2 b3 b4 b5,JO a b1 b2 b3 b4 b5=some (b1&&b2&&b3&&b4&&b5&&N4 u a&&N3 u a&&N2 u a (PE a.Op)):=fun b1 b2 b3 b4 b5=>by
    unfold JO N4
    simp only [k9,hm,Option.bind_some,J18]
    cases u.mods<;>rfl
   have J14: ∀ b1 b2 b3 b4,JP a b1 b2 b3 b4=some (b1&&b2&&b3&&b4&&fY u a&&N4 u a&&N3 u a&&N2 u a (PE a.Op)):=fun b1 b2 b3 b4=>by
    unfold JP fY
    rw [show (⟨(0:Int),(0:Int),(0:Int),(⟨(0:Int),(0:Int),(0:Int),(0:Int),(0:Int),(0:Int),(0:Int),[],(0:Int),(0:Int),(⟨(0:Int),(0:Int)⟩:Ac),(⟨(0:Int),(0:Int)⟩:Ac),(⟨(0:Int),(0:Int)⟩:Ac)⟩:Ag)⟩:Bm)=zA from rfl]
    simp only [k3,tu,Option.bind_some,J16]
    cases u.amount<;>rfl
   have J4: ∀ b1,Li a b1=some (b1&&S2 u a&&dh u a&&S3 u a&&fY u a&&N4 u a&&N3 u a&&N2 u a (PE a.Op)):=fun b1=>by
    unfold Li
    have z1:(if(a.Zone==0)=true then true else(if(if u.zone=true then decide (0<a.Zone)else false)=true then decide (a.Zone≤4)else false))=S2 u a:=by
     unfold S2
     cases u.zone
     ·cases a.Zone==0<;>rfl
     ·rw [Bool.eq_iff_iff];simp;omega
    have z2:(if(a.Counter==0)=true then true else(if u.counter=true then jY a.Counter else false))=dh u a:=by
     unfold dh jY
     cases u.counter
     ·cases a.Counter==0<;>rfl
     ·rw [Bool.eq_iff_iff];simp;omega
    have z3: ∀ g:Bool,(if g=true then c else default)=if g=true then c else []:=fun g=>rfl
    simp only [k4,k5,k6,Rh,c1,Option.bind_some,pP,J14]
    rw [←z1, ←z2]
    unfold S3
    cases hz:a.Zone==0<;>cases hc:a.Counter==0<;>cases hcard:u.card<;>cases hcu:u.counter<;>cases hzu:u.zone<;>simp [c3]
   simp only [h2,h4,k2,Option.bind_some,tt,J4]
   unfold oG oF
   cases u.ref
   ·simp only [Bool.false_eq_true,if_false]
    refine congrArg some ?_
    ac_rfl
   ·simp only [if_true]
    refine congrArg some ?_
    ac_rfl
 ·have e1:IU a n=some false:=by
   have hw:HU a.Op=some []:=by
    by_cases h0:a.Op=0
    ·rw [h0];rfl
    ·unfold HU
     rw [Option.bind_some,if_pos (by simp;omega)]
   have hof:T (K3 a.Op):=by
    unfold K3 In CG C7 Im Il CM
    repeat' (first | exact⟨_,rfl⟩ | refine kw ?_ ?_)
   obtain⟨u,hu⟩:=hof
   unfold IU
   simp [hw,hu,Z9]
  have e2:QK a n=some false:=by
   have hw:Nu a.Op=some []:=by
    unfold Nu
    rw [Option.bind_some,if_pos (by simp;omega)]
   unfold QK
   simp [hw]
  exact⟨false,e1,e2⟩
theorem pZ (a:Ar) (n:Int):IU a n=some (di a n):=by
 obtain⟨b,h, -⟩:=dj a n
 unfold di;rw [h];rfl
theorem tx (a:Ar) (n:Int):QK a n=some (di a n):=by
 obtain⟨b,h,h'⟩:=dj a n
 rw [h', ←h,pZ]
end Go.PL
