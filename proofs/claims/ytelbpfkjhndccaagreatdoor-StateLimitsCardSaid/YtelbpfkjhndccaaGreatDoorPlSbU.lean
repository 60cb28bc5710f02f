/- Plain laws of states: effects, abilities. -/
import Derived.Test.YtelbpfkjhndccaaGreatDoorPlSbT
namespace Go.PL
open Go
set_option maxRecDepth 100000
set_option linter.all false
set_option maxHeartbeats 4000000
theorem Rt {α:Type} [Inhabited α] (l:List α) (q:α→Bool):((List.range l.length).all fun i=>q (l.getD i default))=l.all q:=by
 rw [Bool.eq_iff_iff,List.all_eq_true,List.all_eq_true]
 constructor
 ·intro h x hx
  obtain⟨i,hi,rfl⟩:=List.mem_iff_getElem.1 hx
  have:=h i (List.mem_range.2 hi)
  rwa [GJ hi]at this
 ·intro h i hi
  exact h _ (TW (List.mem_range.1 hi))
theorem XS {α:Type} [Inhabited α] {l:List α} {q:α→Bool} {B:Int→Option (Int⊕(Unit⊕Unit))} {K a:Option Bool} (hn:l.length<9223372036854775807)
 (hB: ∀ (i:Nat) (h:i<l.length),B (i:Int)=some (if q l[i]=true then .inl ((i:Int)+1)else .inr (.inr ()))) (hE:B (l.length:Int)=some (.inr (.inl ()))):
 (iter B FU 0).bind (Sum.elim (fun _=>K) (fun _=>a))=if l.all q=true then K else a:=by
 rw [hH (p:=fun i=>q (l.getD i default)) l.length hn (fun i hi=>by rw [hB i hi,GJ hi]) hE,Rt]
theorem aW {b:Bool} {i:Nat} (hi:i<9223372036854775807):(if(!b)=true then some (.inr (.inr ()))else some (.inl (Ab ((i:Int)+1))):Option (Int⊕(Unit⊕Unit)))=some (if b=true then .inl ((i:Int)+1)else .inr (.inr ())):=by
 rw [BC (by omega) (by omega)]
 cases b<;>rfl
def jH (i:Int):Bool:=match Jg i with
 | some u=>(Co i 114==some u.ref)&&((Co i 97==some u.amount)&&((Co i 107==some u.counter)&&((Co i 122==some u.zone)&&((Co i 99==some u.card)&&((Co i 102==some u.filter)&&((Co i 112==some u.pool)&&(Co i 109==some u.mods)))))))
 | none=>false
theorem iD:((List.range 26).all fun i=>jH ((i:Int)+1))=true:=by kernel_rfl
def fR (i:Int):Bool:=match G6 i,NG i with
 | some a,some b=>a != []&&b != []
 | _,_=>false
theorem fS:((List.range 26).all fun i=>fR ((i:Int)+1))=true:=by kernel_rfl
theorem lm {k:Int} (h:1≤k∧k≤26): ∃ u,Jg k=some u∧Co k 114=some u.ref∧Co k 97=some u.amount∧Co k 107=some u.counter∧Co k 122=some u.zone∧Co k 99=some u.card∧Co k 102=some u.filter∧Co k 112=some u.pool∧Co k 109=some u.mods:=by
 have t:=List.all_eq_true.1 iD (k - 1).toNat (List.mem_range.2 (by omega))
 rw [Int.toNat_of_nonneg (by omega),show k - 1+1=k by omega]at t
 unfold jH at t
 split at t
 ·rename_i u hu
  simp only [Bool.and_eq_true,beq_iff_eq]at t
  exact⟨u,hu,t⟩
 ·cases t
theorem iE {k:Int} (h:1≤k∧k≤26): ∃ a b,G6 k=some a∧NG k=some b∧(a != [])=true∧(b==[])=false:=by
 have t:=List.all_eq_true.1 fS (k - 1).toNat (List.mem_range.2 (by omega))
 rw [Int.toNat_of_nonneg (by omega),show k - 1+1=k by omega]at t
 unfold fR at t
 split at t
 ·rename_i a b h1 h2
  rw [Bool.and_eq_true]at t
  exact⟨a,b,h1,h2,t.1,by have:=t.2;unfold bne at this;simpa using this⟩
 ·cases t
def zR:IM:=⟨0,0,zF⟩
def zA:Bv:=⟨0,0,0,zF⟩
def zP:A6 Int:=⟨0,0,0,0,0,0⟩
def fT (r:IM) (n:Int):Bool:=(JR r n).getD false
theorem jI (r:IM) (n:Int):JR r n=some (fT r n):=by
 obtain⟨b,h⟩:=jF r n
 unfold fT;rw [h];rfl
theorem nw (r:IM) (n:Int):Rf r n=some (fT r n):=by rw [(fQ r n).2,jI]
def fU (m:Bv):Bool:=(Fw m).getD false
theorem jJ (m:Bv):Fw m=some (fU m):=by
 obtain⟨b,h⟩:=(Zs m).1
 unfold fU;rw [h];rfl
theorem ny (m:Bv):Rh m=some (fU m):=by rw [(Zs m).2,jJ]
def dJ (m:By):Bool:=(DJ m).getD false
theorem jK (m:By):DJ m=some (dJ m):=by
 obtain⟨b,h⟩:=nt m
 unfold dJ;rw [h];rfl
theorem nB (m:By):NP m=some (dJ m):=by rw [lk m,jK]
def fV (m:AJ):Bool:=(DI m).getD false
theorem jL (m:AJ):DI m=some (fV m):=by
 obtain⟨b,h⟩:=nu m
 unfold fV;rw [h];rfl
theorem nC (m:AJ):Rk m=some (fV m):=by rw [ll m,jL]
def ct (a:A6 Int):Bool:=cj (WE a)
theorem fW (a:A6 Int): ∃ w,GA a=some w∧Kn a=some w∧(w==[])= !ct a∧(w != [])=ct a:=by
 have h:=dF (WE a)
 exact⟨_,lj a,iw a,h,by unfold bne;rw [h];exact Bool.not_not _⟩
theorem aX (l:List Bx): ∃ w,E8 l=some w∧(w==[])= !K5 l∧(w != [])=K5 l:=by
 obtain⟨w,h1,h2⟩:=iy l
 exact⟨w,h1,h2,by unfold bne;rw [h2];exact Bool.not_not _⟩
theorem cu (l:List Bx): ∃ w,IZ l=some w∧(w==[])= !K5 l∧(w != [])=K5 l:=by
 obtain⟨w,h1,h2⟩:=fN l
 exact⟨w,h1,h2,by unfold bne;rw [h2];exact Bool.not_not _⟩
def iG (u:Bz) (a:Aw) (n:Int):Bool:=if u.ref=true then fT a.Ref n else a.Ref==zR
def aY (u:Bz) (a:Aw):Bool:=if u.amount=true then fU a.Amount else a.Amount==zA
def Zt (u:Bz) (a:Aw):Bool:=if u.counter=true then dH a.Counter else a.Counter==0
def Qp (u:Bz) (a:Aw):Bool:=if u.zone=true then decide (0≤a.Zone)&&decide (a.Zone≤4)else a.Zone==0
def Qq (u:Bz) (a:Aw):Bool:=if u.card=true then K4 a.Card else a.Card==[]
def Lv (u:Bz) (a:Aw) (z:Int):Bool:=if u.filter=true then Lu a.Filter&&a.Filter.Zone==z else a.Filter==zF
def Lw (u:Bz) (a:Aw):Bool:=if u.pool=true then !(a.Pool==zP)&&ct a.Pool else a.Pool==zP
def Lx (u:Bz) (a:Aw):Bool:=if u.mods=true then K5 a.Mods else(a.Mods.length:Int)==0
theorem pG (b:Bool):EA b=some (!b):=by cases b<;>rfl
theorem pH (a:Aw) (u:Bz) (b:Bool):DN a u b=some (!b&&Lx u a):=by
 obtain⟨w,h1,h2,h3⟩:=aX a.Mods
 cases b
 ·unfold DN Lx
  simp only [h1,pG,PG]
  cases hu:u.mods
  ·simp
   cases a.Mods<;>simp
   omega
  ·simp only [beq_self_eq_true,if_true,h2,Option.bind_some]
   cases K5 a.Mods<;>rfl
 ·rfl
theorem pI (a:Aw) (u:Bz) (b:Bool):DO a u b=some (!b&&(Lw u a&&Lx u a)):=by
 obtain⟨w,h1, -,h2,h3⟩:=fW a.Pool
 cases b
 ·unfold DO Lw
  rw [show (⟨0,0,0,0,0,0⟩:A6 Int)=zP from rfl]
  simp only [h1,pH,PG]
  cases hu:u.pool
  ·cases a.Pool==zP<;>simp
  ·cases a.Pool==zP
   ·simp only [beq_self_eq_true,Bool.and_self,if_true,Bool.false_eq_true,if_false,h2,Option.bind_some]
    cases ct a.Pool<;>rfl
   ·rfl
 ·rfl
theorem pJ (a:Aw) (u:Bz) (z:Int) (b:Bool):DP a u z b=some (!b&&(Lv u a z&&(Lw u a&&Lx u a))):=by
 cases b
 ·unfold DP Lv
  rw [show (⟨(0:Int),(0:Int),(0:Int),(0:Int),(0:Int),(0:Int),(0:Int),[],(0:Int),(0:Int),(⟨(0:Int),(0:Int)⟩:Ae),(⟨(0:Int),(0:Int)⟩:Ae),(⟨(0:Int),(0:Int)⟩:Ae)⟩:Af)=zF from rfl]
  simp only [D1,pI,PG,bne]
  cases hu:u.filter
  ·cases a.Filter==zF<;>simp
  ·cases Lu a.Filter<;>cases a.Filter.Zone==z<;>simp
 ·rfl
theorem px (a:Aw) (u:Bz) (z:Int) (b:Bool):DQ a u z b=some (!b&&(Qq u a&&(Lv u a z&&(Lw u a&&Lx u a)))):=by
 cases b
 ·unfold DQ Qq
  simp only [ft,pJ,PG,bne]
  cases hu:u.card
  ·cases a.Card==[]<;>simp
  ·cases K4 a.Card<;>simp
 ·rfl
theorem lV (a:Aw) (u:Bz) (z:Int) (b:Bool):DR a u z b=some (!b&&(Qp u a&&(Qq u a&&(Lv u a z&&(Lw u a&&Lx u a))))):=by
 cases b
 ·unfold DR Qp
  simp only [px,PG,bne,oo]
  cases hu:u.zone
  ·cases a.Zone==0<;>simp
  ·cases decide (0≤a.Zone)<;>cases decide (a.Zone≤4)<;>simp
 ·rfl
theorem j7 (a:Aw) (u:Bz) (z:Int) (b:Bool):Ea a u z b=some (!b&&(Zt u a&&(Qp u a&&(Qq u a&&(Lv u a z&&(Lw u a&&Lx u a)))))):=by
 obtain⟨w,h1,h2,h3⟩:=cr a.Counter
 cases b
 ·unfold Ea Zt
  simp only [h1,lV,PG,bne]
  cases hu:u.counter
  ·cases a.Counter==0<;>simp
  ·simp only [beq_self_eq_true,if_true,h2,Option.bind_some]
   cases dH a.Counter<;>rfl
 ·rfl
theorem j4 (a:Aw) (u:Bz) (z:Int) (b:Bool):Eb a u z b=some (!b&&(aY u a&&(Zt u a&&(Qp u a&&(Qq u a&&(Lv u a z&&(Lw u a&&Lx u a))))))):=by
 cases b
 ·unfold Eb aY
  rw [show (⟨(0:Int),(0:Int),(0:Int),(⟨(0:Int),(0:Int),(0:Int),(0:Int),(0:Int),(0:Int),(0:Int),[],(0:Int),(0:Int),(⟨(0:Int),(0:Int)⟩:Ae),(⟨(0:Int),(0:Int)⟩:Ae),(⟨(0:Int),(0:Int)⟩:Ae)⟩:Af)⟩:Bv)=zA from rfl]
  simp only [jJ,j7,PG,bne]
  cases hu:u.amount
  ·cases a.Amount==zA<;>simp
  ·cases fU a.Amount<;>simp
 ·rfl
theorem j2 (a:Aw) (u:Bz) (n z:Int):Ec a u n z=some (iG u a n&&(aY u a&&(Zt u a&&(Qp u a&&(Qq u a&&(Lv u a z&&(Lw u a&&Lx u a))))))):=by
 unfold Ec iG
 rw [show (⟨(0:Int),(0:Int),(⟨(0:Int),(0:Int),(0:Int),(0:Int),(0:Int),(0:Int),(0:Int),[],(0:Int),(0:Int),(⟨(0:Int),(0:Int)⟩:Ae),(⟨(0:Int),(0:Int)⟩:Ae),(⟨(0:Int),(0:Int)⟩:Ae)⟩:Af)⟩:IM)=zR from rfl]
 simp only [jI,j4,PG,bne]
 cases hu:u.ref
 ·cases a.Ref==zR<;>simp
 ·cases fT a.Ref n<;>simp
def MZ (k:Int):Int:=if k=21 then 2 else 0
def iH (u:Bz) (a:Aw) (n:Int):Bool:=iG u a n&&(aY u a&&(Zt u a&&(Qp u a&&(Qq u a&&(Lv u a (MZ a.Op)&&(Lw u a&&Lx u a))))))
theorem iI (a:Aw) (u:Bz) (n:Int):IY a u n=some (iH u a n):=by
 unfold IY iH MZ
 by_cases h:a.Op=21
 ·rw [if_pos (by simpa using h),if_pos h,j2]
 ·rw [if_neg (by simpa using h),if_neg h,j2]
def Zu (a:Aw) (n:Int):Bool:=(HK a n).getD false
theorem Zv (a:Aw) (n:Int): ∃ b,HK a n=some b∧Rl a n=some b:=by
 by_cases hk:1≤a.Op∧a.Op≤26
 ·obtain⟨w,v,h1,h2,h3,h4⟩:=iE hk
  obtain⟨u,k1,k2,k3,k4,k5,k6,k7,k8,k9⟩:=lm hk
  refine⟨iH u a n,?_,?_⟩
  ·unfold HK
   simp only [h1,k1,Option.bind_some,h3,PG,if_true,beq_self_eq_true,iI]
  ·obtain⟨c,c1,c2,c3⟩:=fP a.Counter
   obtain⟨p, -,p1,p2,p3⟩:=fW a.Pool
   obtain⟨m,m1,m2,m3⟩:=cu a.Mods
   have hf:Pe a.Op a.Filter=some (Lu a.Filter&&a.Filter.Zone==MZ a.Op):=by
    unfold Pe LM MZ
    simp only [NV,Option.bind_some,O0]
    by_cases h:a.Op=21
    ·rw [if_pos (by simpa using h),if_pos h]
    ·rw [if_neg (by simpa using h),if_neg h]
   have hm:UF a.Mods=some (K5 a.Mods):=by
    unfold UF
    rw [m1,Option.bind_some,m3]
   unfold Rl
   rw [show (⟨(0:Int),(0:Int),(⟨(0:Int),(0:Int),(0:Int),(0:Int),(0:Int),(0:Int),(0:Int),[],(0:Int),(0:Int),(⟨(0:Int),(0:Int)⟩:Ae),(⟨(0:Int),(0:Int)⟩:Ae),(⟨(0:Int),(0:Int)⟩:Ae)⟩:Af)⟩:IM)=zR from rfl]
   have J22: ∀ b1 b2 b3 b4 b5 b6 b7 b8,MS b1 b2 b3 b4 b5 b6 b7 b8=some (b1&&b2&&b3&&b4&&b5&&b6&&b7&&b8):=fun b1 b2 b3 b4 b5 b6 b7 b8=>by
    unfold MS
    simp only [Option.bind_some,O0]
   have J20: ∀ b1 b2 b3 b4 b5 b6 b7,MT a b1 b2 b3 b4 b5 b6 b7=some (b1&&b2&&b3&&b4&&b5&&b6&&b7&&Lv u a (MZ a.Op)):=fun b1 b2 b3 b4 b5 b6 b7=>by
    unfold MT Lv
    simp only [k7,hf,Option.bind_some,J22]
    cases u.filter<;>rfl
   have J18: ∀ b1 b2 b3 b4 b5 b6,MU a b1 b2 b3 b4 b5 b6=some (b1&&b2&&b3&&b4&&b5&&b6&&Lw u a&&Lv u a (MZ a.Op)):=fun b1 b2 b3 b4 b5 b6=>by
    unfold MU Lw
    rw [show (⟨0,0,0,0,0,0⟩:A6 Int)=zP from rfl]
    simp only [k8,p1,PG,Option.bind_some,J20]
    cases u.pool
    ·rfl
    ·cases a.Pool==zP<;>simp [p3]
   have J16: ∀ b1 b2 b3 b4 b5,MV a b1 b2 b3 b4 b5=some (b1&&b2&&b3&&b4&&b5&&Lx u a&&Lw u a&&Lv u a (MZ a.Op)):=fun b1 b2 b3 b4 b5=>by
    unfold MV Lx
    simp only [k9,hm,Option.bind_some,J18]
    cases u.mods<;>rfl
   have J14: ∀ b1 b2 b3 b4,MW a b1 b2 b3 b4=some (b1&&b2&&b3&&b4&&aY u a&&Lx u a&&Lw u a&&Lv u a (MZ a.Op)):=fun b1 b2 b3 b4=>by
    unfold MW aY
    rw [show (⟨(0:Int),(0:Int),(0:Int),(⟨(0:Int),(0:Int),(0:Int),(0:Int),(0:Int),(0:Int),(0:Int),[],(0:Int),(0:Int),(⟨(0:Int),(0:Int)⟩:Ae),(⟨(0:Int),(0:Int)⟩:Ae),(⟨(0:Int),(0:Int)⟩:Ae)⟩:Af)⟩:Bv)=zA from rfl]
    simp only [k3,ny,Option.bind_some,J16]
    cases u.amount<;>rfl
   have J4: ∀ b1,Oi a b1=some (b1&&Qp u a&&Zt u a&&Qq u a&&aY u a&&Lx u a&&Lw u a&&Lv u a (MZ a.Op)):=fun b1=>by
    unfold Oi
    have z1:(if(a.Zone==0)=true then true else(if(if u.zone=true then decide (0<a.Zone)else false)=true then decide (a.Zone≤4)else false))=Qp u a:=by
     unfold Qp
     cases u.zone
     ·cases a.Zone==0<;>rfl
     ·rw [Bool.eq_iff_iff];simp;omega
    have z2:(if(a.Counter==0)=true then true else(if u.counter=true then dH a.Counter else false))=Zt u a:=by
     unfold Zt dH
     cases u.counter
     ·cases a.Counter==0<;>rfl
     ·rw [Bool.eq_iff_iff];simp;omega
    have z3: ∀ g:Bool,(if g=true then c else default)=if g=true then c else []:=fun g=>rfl
    simp only [k4,k5,k6,PG,c1,Option.bind_some,jC,J14]
    rw [←z1, ←z2]
    unfold Qq
    cases hz:a.Zone==0<;>cases hc:a.Counter==0<;>cases hcard:u.card<;>cases hcu:u.counter<;>cases hzu:u.zone<;>simp [c3]
   simp only [h2,h4,k2,Option.bind_some,nw,J4]
   unfold iH iG
   cases u.ref
   ·simp only [Bool.false_eq_true,if_false]
    refine congrArg some ?_
    ac_rfl
   ·simp only [if_true]
    refine congrArg some ?_
    ac_rfl
 ·have e1:HK a n=some false:=by
   have hw:G6 a.Op=some []:=by
    by_cases h0:a.Op=0
    ·rw [h0];rfl
    ·unfold G6
     rw [Option.bind_some,if_pos (by simp;omega)]
   have hof:T (Jg a.Op):=by
    unfold Jg Hq Cx CW Hp Ho CA
    repeat' (first | exact⟨_,rfl⟩ | refine dU ?_ ?_)
   obtain⟨u,hu⟩:=hof
   unfold HK
   simp [hw,hu,X0]
  have e2:Rl a n=some false:=by
   have hw:NG a.Op=some []:=by
    unfold NG
    rw [Option.bind_some,if_pos (by simp;omega)]
   unfold Rl
   simp [hw]
  exact⟨false,e1,e2⟩
theorem jM (a:Aw) (n:Int):HK a n=some (Zu a n):=by
 obtain⟨b,h, -⟩:=Zv a n
 unfold Zu;rw [h];rfl
theorem nD (a:Aw) (n:Int):Rl a n=some (Zu a n):=by
 obtain⟨b,h,h'⟩:=Zv a n
 rw [h', ←h,jM]
end Go.PL
