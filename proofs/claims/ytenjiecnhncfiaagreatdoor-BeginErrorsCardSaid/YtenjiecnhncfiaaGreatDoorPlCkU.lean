/- Plain laws of states: effects, abilities. -/
import Derived.Test.YtenjiecnhncfiaaGreatDoorPlCkT
open List (all_eq_true mem_range)
open Bool (not_not)
namespace Go.PL
open Go
set_option maxRecDepth 100000
set_option linter.all false
set_option maxHeartbeats 4000000
theorem hT {α:Type} [Inhabited α] (l:List α) (q:α->Bool):((List.range l.length).all fun i=>q (l.getD i default))=l.all q:=by
 rw [Bool.eq_iff_iff,all_eq_true,all_eq_true];constructor
 ·intro h x hx;obtain⟨i,hi,rfl⟩:=List.mem_iff_getElem.1 hx;have:=h i (mem_range.2 hi);rwa [YM hi]at this
 ·intro h i hi;exact h _ (O3 (mem_range.1 hi))
theorem yP {α β γ:Type} [Inhabited α] {l:List α} {q:α->Bool} {c:β} {B:Int->Option (Int⊕(Unit⊕β))} {K:Option γ} {f:β->Option γ} (hn:l.length<9223372036854775807)
 (hB: ∀ (i:Nat) (h:i<l.length),B (i:Int)=some (if q l[i]=true then .inl ((i:Int)+1)else .inr (.inr c))) (hE:B (l.length:Int)=some (.inr (.inl ()))):
 (iter B FU 0).bind (Sum.elim (fun _=>K) f)=if l.all q=true then K else f c:=by
 rw [yp (p:=fun i=>q (l.getD i default)) l.length hn (fun i hi=>by rw [hB i hi,YM hi]) hE,hT]
theorem AbD {β:Type} {b:Bool} {c:β} {i:Nat} (hi:i<9223372036854775807):(if !b then some (.inr (.inr c))else some (.inl (Ad ((i:Int)+1))):Option (Int⊕(Unit⊕β)))=some (if b then .inl ((i:Int)+1)else .inr (.inr c)):=by rw [AU (by omega) (by omega)];cases b<;>rfl
def AcA (i:Int):Bool:=match Jx i with
 | some u=>(Bv i 114==some u.ref)&&((Bv i 97==some u.acY)&&((Bv i 107==some u.counter)&&((Bv i 122==some u.ahr)&&((Bv i 99==some u.ahb)&&((Bv i 102==some u.filter)&&((Bv i 112==some u.ain)&&(Bv i 109==some u.aio)))))))
 | none=>false
theorem AbE:((List.range 26).all fun i=>AcA ((i:Int)+1))=true:=by kernel_rfl
def yQ (i:Int):Bool:=match Gf i,Ms i with
 | some a,some b=>a != []&&b != []
 | _,_=>false
theorem yR:((List.range 26).all fun i=>yQ ((i:Int)+1))=true:=by kernel_rfl
theorem AeX {k:Int} (h:1<=k/\k<=26): ∃ u,Jx k=some u/\Bv k 114=some u.ref/\Bv k 97=some u.acY/\Bv k 107=some u.counter/\Bv k 122=some u.ahr/\Bv k 99=some u.ahb/\Bv k 102=some u.filter/\Bv k 112=some u.ain/\Bv k 109=some u.aio:=by
 have t:=all_eq_true.1 AbE (k - 1).toNat (mem_range.2 (by omega));rw [Int.toNat_of_nonneg (by omega),show k - 1+1=k by omega]at t;unfold AcA at t;split at t
 ·rename_i u hu;simp only [Bool.and_eq_true,beq_iff_eq]at t;exact⟨u,hu,t⟩
 ·cases t
theorem AbF {k:Int} (h:1<=k/\k<=26): ∃ a b,Gf k=some a/\Ms k=some b/\(a != [])=true/\(b==[])=false:=by
 have t:=all_eq_true.1 yR (k - 1).toNat (mem_range.2 (by omega));rw [Int.toNat_of_nonneg (by omega),show k - 1+1=k by omega]at t;unfold yQ at t;split at t
 ·rename_i a b h1 h2;rw [Bool.and_eq_true]at t;exact⟨a,b,h1,h2,t.1,by have:=t.2;unfold bne at this;simpa using this⟩
 ·cases t
def zR:Ht:=⟨0,0,zF⟩
def zA:AY:=⟨0,0,0,zF⟩
def zP:A6 Int:=⟨0,0,0,0,0,0⟩
def yS (r:Ht) (n:Int):Bool:=(KG r n).getD false
theorem AcB (r:Ht) (n:Int):KG r n=some (yS r n):=by obtain⟨b,h⟩:=Acy r n;unfold yS;rw [h];rfl
theorem Agu (r:Ht) (n:Int):RN r n=some (yS r n):=by rw [(yO r n).2,AcB]
def yT (m:AY):Bool:=(D1 m).getD false
theorem AcC (m:AY):D1 m=some (yT m):=by obtain⟨b,h⟩:=(n7 m).1;unfold yT;rw [h];rfl
theorem Agv (m:AY):RO m=some (yT m):=by rw [(n7 m).2,AcC]
def vm (m:A0):Bool:=(CD m).getD false
theorem AcD (m:A0):CD m=some (vm m):=by obtain⟨b,h⟩:=Ags m;unfold vm;rw [h];rfl
theorem Agw (m:A0):NL m=some (vm m):=by rw [AeV m,AcD]
def yU (m:Au):Bool:=(CC m).getD false
theorem AcE (m:Au):CC m=some (yU m):=by obtain⟨b,h⟩:=Agt m;unfold yU;rw [h];rfl
theorem Agx (m:Au):RP m=some (yU m):=by rw [AeW m,AcE]
def td (a:A6 Int):Bool:=oF (hP a)
theorem yV (a:A6 Int): ∃ w,Fv a=some w/\GX a=some w/\(w==[])= !td a/\(w != [])=td a:=by have h:=vj (hP a);exact⟨_,AeU a,Aby a,h,by unfold bne;rw [h];exact not_not _⟩
theorem yW (l:List A1): ∃ w,E4 l=some w/\(w==[])= !ME l/\(w != [])=ME l:=by obtain⟨w,h1,h2⟩:=Abz l;exact⟨w,h1,h2,by unfold bne;rw [h2];exact not_not _⟩
theorem tf (l:List A1): ∃ w,E6 l=some w/\(w==[])= !ME l/\(w != [])=ME l:=by obtain⟨w,h1,h2⟩:=yL l;exact⟨w,h1,h2,by unfold bne;rw [h2];exact not_not _⟩
def AbG (u:AL) (a:Av) (n:Int):Bool:=if u.ref then yS a.Ref n else a.Ref==zR
def rn (u:AL) (a:Av):Bool:=if u.acY then yT a.M_ else a.M_==zA
def n8 (u:AL) (a:Av):Bool:=if u.counter then vl a.o_ else a.o_==0
def Ur (u:AL) (a:Av):Bool:=if u.ahr then decide (0<=a.q_)&&decide (a.q_<=4)else a.q_==0
def Us (u:AL) (a:Av):Bool:=if u.ahb then IE a.ab1 else a.ab1==[]
def Lp (u:AL) (a:Av) (z:Int):Bool:=if u.filter then Lo a.Filter&&a.Filter.q_==z else a.Filter==zF
def Lq (u:AL) (a:Av):Bool:=if u.ain then !(a.abe==zP)&&td a.abe else a.abe==zP
def Lr (u:AL) (a:Av):Bool:=if u.aio then ME a.Tg else(a.Tg.length:Int)==0
theorem j25 (b:Bool):Mz b=some (!b):=by cases b<;>rfl
theorem j22 (a:Av) (u:AL) (b:Bool):HF a u b=some (!b&&Lr u a):=by
 obtain⟨w,h1,h2,h3⟩:=yW a.Tg;cases b
 ·simp only [HF,Lr,jn];simp only [h1,j25,QC];cases hu:u.aio
  ·simp;cases a.Tg<;>simp;omega
  ·simp only [beq_self_eq_true,if_true,h2,Option.bind_some];cases ME a.Tg<;>rfl
 ·rfl
theorem j19 (a:Av) (u:AL) (b:Bool):HG a u b=some (!b&&(Lq u a&&Lr u a)):=by
 obtain⟨w,h1, -,h2,h3⟩:=yV a.abe;cases b
 ·simp only [HG,Lq,jn];rw [show (⟨0,0,0,0,0,0⟩:A6 Int)=zP from rfl];simp only [h1,j22,QC];cases hu:u.ain
  ·cases a.abe==zP<;>simp
  ·cases a.abe==zP
   ·simp only [beq_self_eq_true,Bool.and_self,if_true,Bool.false_eq_true,if_false,h2,Option.bind_some];cases td a.abe<;>rfl
   ·rfl
 ·rfl
theorem j16 (a:Av) (u:AL) (z:Int) (b:Bool):HH a u z b=some (!b&&(Lp u a z&&(Lq u a&&Lr u a))):=by
 cases b
 ·simp only [HH,Lp,jn];rw [show (⟨(0:Int),(0:Int),(0:Int),(0:Int),(0:Int),(0:Int),(0:Int),[],(0:Int),(0:Int),(⟨(0:Int),(0:Int)⟩:Af),(⟨(0:Int),(0:Int)⟩:Af),(⟨(0:Int),(0:Int)⟩:Af)⟩:Aj)=zF from rfl];simp only [Ct,j19,QC,bne];cases hu:u.filter
  ·cases a.Filter==zF<;>simp
  ·cases Lo a.Filter<;>cases a.Filter.q_==z<;>simp
 ·rfl
theorem j13 (a:Av) (u:AL) (z:Int) (b:Bool):HI a u z b=some (!b&&(Us u a&&(Lp u a z&&(Lq u a&&Lr u a)))):=by
 cases b
 ·simp only [HI,Us,jn];simp only [kA,j16,QC,bne];cases hu:u.ahb
  ·cases a.ab1==[]<;>simp
  ·cases IE a.ab1<;>simp
 ·rfl
theorem j10 (a:Av) (u:AL) (z:Int) (b:Bool):HJ a u z b=some (!b&&(Ur u a&&(Us u a&&(Lp u a z&&(Lq u a&&Lr u a))))):=by
 cases b
 ·simp only [HJ,Ur,jn];simp only [j13,QC,bne,ltN];cases hu:u.ahr
  ·cases a.q_==0<;>simp
  ·cases decide (0<=a.q_)<;>cases decide (a.q_<=4)<;>simp
 ·rfl
theorem j7 (a:Av) (u:AL) (z:Int) (b:Bool):IS a u z b=some (!b&&(n8 u a&&(Ur u a&&(Us u a&&(Lp u a z&&(Lq u a&&Lr u a)))))):=by
 obtain⟨w,h1,h2,h3⟩:=tb a.o_;cases b
 ·simp only [IS,n8,jn];simp only [h1,j10,QC,bne];cases hu:u.counter
  ·cases a.o_==0<;>simp
  ·simp only [beq_self_eq_true,if_true,h2,Option.bind_some];cases vl a.o_<;>rfl
 ·rfl
theorem j4 (a:Av) (u:AL) (z:Int) (b:Bool):IT a u z b=some (!b&&(rn u a&&(n8 u a&&(Ur u a&&(Us u a&&(Lp u a z&&(Lq u a&&Lr u a))))))):=by
 cases b
 ·simp only [IT,rn,jn];rw [show (⟨(0:Int),(0:Int),(0:Int),(⟨(0:Int),(0:Int),(0:Int),(0:Int),(0:Int),(0:Int),(0:Int),[],(0:Int),(0:Int),(⟨(0:Int),(0:Int)⟩:Af),(⟨(0:Int),(0:Int)⟩:Af),(⟨(0:Int),(0:Int)⟩:Af)⟩:Aj)⟩:AY)=zA from rfl];simp only [AcC,j7,QC,bne];cases hu:u.acY
  ·cases a.M_==zA<;>simp
  ·cases yT a.M_<;>simp
 ·rfl
theorem j2 (a:Av) (u:AL) (n z:Int):IU a u n z=some (AbG u a n&&(rn u a&&(n8 u a&&(Ur u a&&(Us u a&&(Lp u a z&&(Lq u a&&Lr u a))))))):=by
 simp only [IU,AbG,jn];rw [show (⟨(0:Int),(0:Int),(⟨(0:Int),(0:Int),(0:Int),(0:Int),(0:Int),(0:Int),(0:Int),[],(0:Int),(0:Int),(⟨(0:Int),(0:Int)⟩:Af),(⟨(0:Int),(0:Int)⟩:Af),(⟨(0:Int),(0:Int)⟩:Af)⟩:Aj)⟩:Ht)=zR from rfl];simp only [AcB,j4,QC,bne];cases hu:u.ref
 ·cases a.Ref==zR<;>simp
 ·cases yS a.Ref n<;>simp
def NQ (k:Int):Int:=if k=21 then 2 else 0
def AbH (u:AL) (a:Av) (n:Int):Bool:=AbG u a n&&(rn u a&&(n8 u a&&(Ur u a&&(Us u a&&(Lp u a (NQ a.Op)&&(Lq u a&&Lr u a))))))
theorem AbI (a:Av) (u:AL) (n:Int):Jl a u n=some (AbH u a n):=by
 simp only [Jl,AbH,NQ,jn];by_cases h:a.Op=21
 ·rw [if_pos (by simpa using h),if_pos h,j2]
 ·rw [if_neg (by simpa using h),if_neg h,j2]
def n9 (a:Av) (n:Int):Bool:=(Gm a n).getD false
theorem oa (a:Av) (n:Int): ∃ b,Gm a n=some b/\RW a n=some b:=by
 by_cases hk:1<=a.Op/\a.Op<=26
 ·obtain⟨w,v,h1,h2,h3,h4⟩:=AbF hk;obtain⟨u,k1,k2,k3,k4,k5,k6,k7,k8,k9⟩:=AeX hk;refine⟨AbH u a n,?_,?_⟩
  ·unfold Gm;simp only [h1,k1,Option.bind_some,h3,QC,if_true,beq_self_eq_true,AbI]
  ·obtain⟨c,c1,c2,c3⟩:=yN a.o_;obtain⟨p, -,p1,p2,p3⟩:=yV a.abe;obtain⟨m,m1,m2,m3⟩:=tf a.Tg;have hf:NM a.Op a.Filter=some (Lo a.Filter&&a.Filter.q_==NQ a.Op):=by
    simp only [NM,QL,NQ,jn];simp only [PF,Option.bind_some,Vp];by_cases h:a.Op=21
    ·rw [if_pos (by simpa using h),if_pos h]
    ·rw [if_neg (by simpa using h),if_neg h]
   have hm:Un a.Tg=some (ME a.Tg):=by unfold Un;rw [m1,Option.bind_some,m3]
   simp only [RW,jn];rw [show (⟨(0:Int),(0:Int),(⟨(0:Int),(0:Int),(0:Int),(0:Int),(0:Int),(0:Int),(0:Int),[],(0:Int),(0:Int),(⟨(0:Int),(0:Int)⟩:Af),(⟨(0:Int),(0:Int)⟩:Af),(⟨(0:Int),(0:Int)⟩:Af)⟩:Aj)⟩:Ht)=zR from rfl];have J22: ∀ b1 b2 b3 b4 b5 b6 b7 b8,RQ b1 b2 b3 b4 b5 b6 b7 b8=some (b1&&b2&&b3&&b4&&b5&&b6&&b7&&b8):=fun b1 b2 b3 b4 b5 b6 b7 b8=>by unfold RQ;simp only [Option.bind_some,Vp]
   have J20: ∀ b1 b2 b3 b4 b5 b6 b7,RR a b1 b2 b3 b4 b5 b6 b7=some (b1&&b2&&b3&&b4&&b5&&b6&&b7&&Lp u a (NQ a.Op)):=fun b1 b2 b3 b4 b5 b6 b7=>by simp only [RR,Lp,jn];simp only [k7,hf,Option.bind_some,J22];cases u.filter<;>rfl
   have J18: ∀ b1 b2 b3 b4 b5 b6,RS a b1 b2 b3 b4 b5 b6=some (b1&&b2&&b3&&b4&&b5&&b6&&Lq u a&&Lp u a (NQ a.Op)):=fun b1 b2 b3 b4 b5 b6=>by
    simp only [RS,Lq,jn];rw [show (⟨0,0,0,0,0,0⟩:A6 Int)=zP from rfl];simp only [k8,p1,QC,Option.bind_some,J20];cases u.ain
    ·rfl
    ·cases a.abe==zP<;>simp [p3]
   have J16: ∀ b1 b2 b3 b4 b5,RU a b1 b2 b3 b4 b5=some (b1&&b2&&b3&&b4&&b5&&Lr u a&&Lq u a&&Lp u a (NQ a.Op)):=fun b1 b2 b3 b4 b5=>by simp only [RU,Lr,jn];simp only [k9,hm,Option.bind_some,J18];cases u.aio<;>rfl
   have J14: ∀ b1 b2 b3 b4,RV a b1 b2 b3 b4=some (b1&&b2&&b3&&b4&&rn u a&&Lr u a&&Lq u a&&Lp u a (NQ a.Op)):=fun b1 b2 b3 b4=>by simp only [RV,rn,jn];rw [show (⟨(0:Int),(0:Int),(0:Int),(⟨(0:Int),(0:Int),(0:Int),(0:Int),(0:Int),(0:Int),(0:Int),[],(0:Int),(0:Int),(⟨(0:Int),(0:Int)⟩:Af),(⟨(0:Int),(0:Int)⟩:Af),(⟨(0:Int),(0:Int)⟩:Af)⟩:Aj)⟩:AY)=zA from rfl];simp only [k3,Agv,Option.bind_some,J16];cases u.acY<;>rfl
   have J4: ∀ b1,V1 a b1=some (b1&&Ur u a&&n8 u a&&Us u a&&rn u a&&Lr u a&&Lq u a&&Lp u a (NQ a.Op)):=fun b1=>by
    simp only [V1,jn];have z1:(if a.q_==0 then true else(if(if u.ahr=true then decide (0<a.q_)else false) then decide (a.q_<=4)else false))=Ur u a:=by
     unfold Ur;cases u.ahr
     ·cases a.q_==0<;>rfl
     ·rw [Bool.eq_iff_iff];simp;omega
    have z2:(if a.o_==0 then true else(if u.counter then vl a.o_ else false))=n8 u a:=by
     unfold n8 vl;cases u.counter
     ·cases a.o_==0<;>rfl
     ·rw [Bool.eq_iff_iff];simp;omega
    have z3: ∀ g:Bool,(if g then c else default)=if g then c else []:=fun g=>rfl
    simp only [k4,k5,k6,QC,c1,Option.bind_some,nU,J14];rw [<-z1, <-z2];unfold Us;cases hz:a.q_==0<;>cases hc:a.o_==0<;>cases aAx:u.ahb<;>cases hcu:u.counter<;>cases hzu:u.ahr<;>simp [c3]
   simp only [h2,h4,k2,Option.bind_some,Agu,J4];unfold AbH AbG;cases u.ref
   ·simp only [Bool.false_eq_true,if_false];refine congrArg some ?_;ac_rfl
   ·simp only [if_true];refine congrArg some ?_;ac_rfl
 ·have e1:Gm a n=some false:=by
   have hw:Gf a.Op=some []:=by
    by_cases h0:a.Op=0
    ·rw [h0];rfl
    ·unfold Gf;rw [Option.bind_some,if_pos (by simp;omega)]
   have hof:T (Jx a.Op):=by
    simp only [Jx,TH,QH,QG,TG,TF,TD,jn]
    repeat' (first | exact⟨_,rfl⟩ | refine Tif ?_ ?_)
   obtain⟨u,hu⟩:=hof;unfold Gm;simp [hw,hu,kI]
  have e2:RW a n=some false:=by
   have hw:Ms a.Op=some []:=by unfold Ms;rw [Option.bind_some,if_pos (by simp;omega)]
   simp only [RW,jn];simp [hw]
  exact⟨false,e1,e2⟩
theorem AcF (a:Av) (n:Int):Gm a n=some (n9 a n):=by obtain⟨b,h, -⟩:=oa a n;unfold n9;rw [h];rfl
theorem Agy (a:Av) (n:Int):RW a n=some (n9 a n):=by obtain⟨b,h,h'⟩:=oa a n;rw [h', <-h,AcF]
end Go.PL
