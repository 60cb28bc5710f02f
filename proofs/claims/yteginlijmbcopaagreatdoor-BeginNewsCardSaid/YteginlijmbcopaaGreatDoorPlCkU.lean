/- Plain laws of states: effects, abilities. -/
import Derived.Test.YteginlijmbcopaaGreatDoorPlCkT
namespace Go.PL
open Go
set_option maxRecDepth 100000
set_option linter.all false
set_option maxHeartbeats 4000000
theorem iO {α:Type} [Inhabited α] (l:List α) (q:α->Bool):((List.range l.length).all fun i=>q (l.getD i default))=l.all q:=by
 rw [Bool.eq_iff_iff,List.all_eq_true,List.all_eq_true];constructor
 ·intro h x hx;obtain⟨i,hi,rfl⟩:=List.mem_iff_getElem.1 hx;simp_all
 grind
theorem AaF {α β γ:Type} [Inhabited α] {l:List α} {q:α->Bool} {c:β} {B:Int->Option (Int⊕(Unit⊕β))} {K:Option γ} {f:β->Option γ} (hn:l.length<9223372036854775807)
 (hB: ∀ (i:Nat) (h:i<l.length),B (i:Int)=some (if q l[i]=true then .inl ((i:Int)+1)else .inr (.inr c))) (hE:B (l.length:Int)=some (.inr (.inl ()))):
 (iter B FU 0).bind (Sum.elim (fun _=>K) f)=if l.all q=true then K else f c:=by
 rw [Aah (p:=fun i=>q (l.getD i default)) l.length hn (fun i hi=>by rw [hB i hi,uy hi]) hE,iO]
theorem Adm {β:Type} {b:Bool} {c:β} {i:Nat} (hi:i<9223372036854775807):(if !b then some (.inr (.inr c))else some (.inl (Aa ((i:Int)+1))):Option (Int⊕(Unit⊕β)))=some (if b then .inl ((i:Int)+1)else .inr (.inr c)):=by grind [A7]
def Aej (i:Int):Bool:=match JI i with
 | some u=>(BA i 114==some u.ref)&&((BA i 97==some u.aem)&&((BA i 107==some u.counter)&&((BA i 122==some u.aj0)&&((BA i 99==some u.aiN)&&((BA i 102==some u.filter)&&((BA i 112==some u.alc)&&(BA i 109==some u.ajy)))))))
 | none=>false
theorem Adn:((List.range 26).all fun i=>Aej ((i:Int)+1))=true:=by kernel_rfl
def AaG (i:Int):Bool:=match Gu i,MH i with
 | some a,some b=>a != []&&b != []
 | _,_=>false
theorem AaH:((List.range 26).all fun i=>AaG ((i:Int)+1))=true:=by kernel_rfl
theorem AgG {k:Int} (h:1<=k/\k<=26): ∃ u,JI k=some u/\BA k 114=some u.ref/\BA k 97=some u.aem/\BA k 107=some u.counter/\BA k 122=some u.aj0/\BA k 99=some u.aiN/\BA k 102=some u.filter/\BA k 112=some u.alc/\BA k 109=some u.ajy:=by have t:=List.all_eq_true.1 Adn (k - 1).toNat (List.mem_range.2 (by omega));rw [Int.toNat_of_nonneg (by omega),show k - 1+1=k by omega]at t;unfold Aej at t;grind
theorem Ado {k:Int} (h:1<=k/\k<=26): ∃ a b,Gu k=some a/\MH k=some b/\(a != [])=true/\(b==[])=false:=by have t:=List.all_eq_true.1 AaH (k - 1).toNat (List.mem_range.2 (by omega));rw [Int.toNat_of_nonneg (by omega),show k - 1+1=k by omega]at t;unfold AaG at t;grind
def zR:HF:=⟨0,0,zF⟩
def zA:AW:=⟨0,0,0,zF⟩
def zP:A6 Int:=⟨0,0,0,0,0,0⟩
def Adp (r:HF) (n:Int):Bool:=(KP r n).getD false
theorem Aek (r:HF) (n:Int):KP r n=some (Adp r n):=by obtain⟨b,h⟩:=Aeh r n;unfold Adp;rw [h];rfl
theorem Aif (r:HF) (n:Int):Wf r n=some (Adp r n):=by rw [(AaE r n).2,Aek]
def Adq (m:AW):Bool:=(D3 m).getD false
theorem Ael (m:AW):D3 m=some (Adq m):=by obtain⟨b,h⟩:=(pM m).1;unfold Adq;rw [h];rfl
theorem Aig (m:AW):R9 m=some (Adq m):=by rw [(pM m).2,Ael]
def AaI (m:AY):Bool:=(CF m).getD false
theorem Aem (m:AY):CF m=some (AaI m):=by obtain⟨b,h⟩:=Aid m;unfold AaI;rw [h];rfl
theorem Aih (m:AY):PQ m=some (AaI m):=by rw [AgE m,Aem]
def Adr (m:Au):Bool:=(CD m).getD false
theorem Aen (m:Au):CD m=some (Adr m):=by obtain⟨b,h⟩:=Aie m;unfold Adr;rw [h];rfl
theorem Aii (m:Au):Sa m=some (Adr m):=by rw [AgF m,Aen]
def AaJ (a:A6 Int):Bool:=sY (iM a)
theorem AaK (a:A6 Int): ∃ w,FD a=some w/\G9 a=some w/\(w==[])= !AaJ a/\(w != [])=AaJ a:=by have h:=xh (iM a);exact⟨_,AgD a,Adh a,h,by unfold bne;rw [h];exact Bool.not_not _⟩
theorem AaL (l:List AZ): ∃ w,Fc l=some w/\(w==[])= !PX l/\(w != [])=PX l:=by obtain⟨w,h1,h2⟩:=Adi l;grind
theorem uR (l:List AZ): ∃ w,Fd l=some w/\(w==[])= !PX l/\(w != [])=PX l:=by obtain⟨w,h1,h2⟩:=AaA l;grind
def Ads (u:AL) (a:Av) (n:Int):Bool:=if u.ref then Adp a.Ref n else a.Ref==zR
def tb (u:AL) (a:Av):Bool:=if u.aem then Adq a.adN else a.adN==zA
def pN (u:AL) (a:Av):Bool:=if u.counter then cnB a.r_ else a.r_==0
def UJ (u:AL) (a:Av):Bool:=if u.aj0 then decide (0<=a.AT)&&decide (a.AT<=4)else a.AT==0
def UK (u:AL) (a:Av):Bool:=if u.aiN then OC a.ad1 else a.ad1==[]
def LD (u:AL) (a:Av) (z:Int):Bool:=if u.filter then Q5 a.Filter&&a.Filter.AT==z else a.Filter==zF
def LE (u:AL) (a:Av):Bool:=if u.alc then !(a.abE==zP)&&AaJ a.abE else a.abE==zP
def LF (u:AL) (a:Av):Bool:=if u.ajy then PX a.aap else(a.aap.length:Int)==0
theorem j25 (b:Bool):MO b=some (!b):=by cases b<;>rfl
theorem j22 (a:Av) (u:AL) (b:Bool):HP a u b=some (!b&&LF u a):=by
 obtain⟨w,h1,h2,h3⟩:=AaL a.aap;cases b
 ·simp only [HP,LF,jn];simp only [h1,j25,RP];cases hu:u.ajy
  ·simp;grind
  grind
 ·rfl
theorem j19 (a:Av) (u:AL) (b:Bool):HQ a u b=some (!b&&(LE u a&&LF u a)):=by
 obtain⟨w,h1, -,h2,h3⟩:=AaK a.abE;cases b
 ·simp only [HQ,LE,jn];rw [show (⟨0,0,0,0,0,0⟩:A6 Int)=zP from rfl];simp only [h1,j22,RP];grind
 ·rfl
theorem j16 (a:Av) (u:AL) (z:Int) (b:Bool):HR a u z b=some (!b&&(LD u a z&&(LE u a&&LF u a))):=by
 cases b
 ·simp only [HR,LD,jn];rw [show (⟨(0:Int),(0:Int),(0:Int),(0:Int),(0:Int),(0:Int),(0:Int),[],(0:Int),(0:Int),(⟨(0:Int),(0:Int)⟩:Ac),(⟨(0:Int),(0:Int)⟩:Ac),(⟨(0:Int),(0:Int)⟩:Ac)⟩:Ag)=zF from rfl];grind [Cw,j19,RP]
 ·rfl
theorem j13 (a:Av) (u:AL) (z:Int) (b:Bool):HS a u z b=some (!b&&(UK u a&&(LD u a z&&(LE u a&&LF u a)))):=by
 cases b
 ·simp only [HS,UK,jn];grind [ly,j16,RP]
 ·rfl
theorem j10 (a:Av) (u:AL) (z:Int) (b:Bool):HT a u z b=some (!b&&(UJ u a&&(UK u a&&(LD u a z&&(LE u a&&LF u a))))):=by grind [HT,UJ,jn,j13,decide]
theorem j7 (a:Av) (u:AL) (z:Int) (b:Bool):I4 a u z b=some (!b&&(pN u a&&(UJ u a&&(UK u a&&(LD u a z&&(LE u a&&LF u a)))))):=by
 obtain⟨w,h1,h2,h3⟩:=uQ a.r_;cases b
 ·simp only [I4,pN,jn];simp only [h1,j10,RP,bne];cases hu:u.counter
  ·simp_all
  grind
 ·rfl
theorem j4 (a:Av) (u:AL) (z:Int) (b:Bool):I5 a u z b=some (!b&&(tb u a&&(pN u a&&(UJ u a&&(UK u a&&(LD u a z&&(LE u a&&LF u a))))))):=by
 cases b
 ·simp only [I5,tb,jn];rw [show (⟨(0:Int),(0:Int),(0:Int),(⟨(0:Int),(0:Int),(0:Int),(0:Int),(0:Int),(0:Int),(0:Int),[],(0:Int),(0:Int),(⟨(0:Int),(0:Int)⟩:Ac),(⟨(0:Int),(0:Int)⟩:Ac),(⟨(0:Int),(0:Int)⟩:Ac)⟩:Ag)⟩:AW)=zA from rfl];grind [Ael,j7,RP]
 ·rfl
theorem j2 (a:Av) (u:AL) (n z:Int):I6 a u n z=some (Ads u a n&&(tb u a&&(pN u a&&(UJ u a&&(UK u a&&(LD u a z&&(LE u a&&LF u a))))))):=by simp only [I6,Ads,jn];rw [show (⟨(0:Int),(0:Int),(⟨(0:Int),(0:Int),(0:Int),(0:Int),(0:Int),(0:Int),(0:Int),[],(0:Int),(0:Int),(⟨(0:Int),(0:Int)⟩:Ac),(⟨(0:Int),(0:Int)⟩:Ac),(⟨(0:Int),(0:Int)⟩:Ac)⟩:Ag)⟩:HF)=zR from rfl];grind [Aek,j4,RP]
def N5 (k:Int):Int:=if k=21 then 2 else 0
def Adt (u:AL) (a:Av) (n:Int):Bool:=Ads u a n&&(tb u a&&(pN u a&&(UJ u a&&(UK u a&&(LD u a (N5 a.Op)&&(LE u a&&LF u a))))))
theorem Adu (a:Av) (u:AL) (n:Int):Ju a u n=some (Adt u a n):=by
 simp only [Ju,Adt,N5,jn];by_cases h:a.Op=21
 all_goals simp_all [j2]
def xj (a:Av) (n:Int):Bool:=(Gv a n).getD false
theorem pO (a:Av) (n:Int): ∃ b,Gv a n=some b/\Sh a n=some b:=by
 by_cases hk:1<=a.Op/\a.Op<=26
 ·obtain⟨w,v,h1,h2,h3,h4⟩:=Ado hk;obtain⟨u,k1,k2,k3,k4,k5,k6,k7,k8,k9⟩:=AgG hk;refine⟨Adt u a n,?_,?_⟩
  ·simp_all [Gv,RP,Adu]
  ·obtain⟨c,c1,c2,c3⟩:=AaD a.r_;obtain⟨p, -,p1,p2,p3⟩:=AaK a.abE;obtain⟨m,m1,m2,m3⟩:=uR a.aap;have hf:NY a.Op a.Filter=some (Q5 a.Filter&&a.Filter.AT==N5 a.Op):=by simp only [NY,Q3,N5,jn];simp only [PW,Option.bind_some,dc];grind
   have hm:UC a.aap=some (PX a.aap):=by grind [UC]
   simp only [Sh,jn];rw [show (⟨(0:Int),(0:Int),(⟨(0:Int),(0:Int),(0:Int),(0:Int),(0:Int),(0:Int),(0:Int),[],(0:Int),(0:Int),(⟨(0:Int),(0:Int)⟩:Ac),(⟨(0:Int),(0:Int)⟩:Ac),(⟨(0:Int),(0:Int)⟩:Ac)⟩:Ag)⟩:HF)=zR from rfl];have J22: ∀ b1 b2 b3 b4 b5 b6 b7 b8,Sb b1 b2 b3 b4 b5 b6 b7 b8=some (b1&&b2&&b3&&b4&&b5&&b6&&b7&&b8):=(by simp_all [Sb]);have J20: ∀ b1 b2 b3 b4 b5 b6 b7,Sc a b1 b2 b3 b4 b5 b6 b7=some (b1&&b2&&b3&&b4&&b5&&b6&&b7&&LD u a (N5 a.Op)):=fun b1 b2 b3 b4 b5 b6 b7=>by simp only [Sc,LD,jn];simp only [k7,hf,Option.bind_some,J22];cases u.filter<;>rfl
   have J18: ∀ b1 b2 b3 b4 b5 b6,Sd a b1 b2 b3 b4 b5 b6=some (b1&&b2&&b3&&b4&&b5&&b6&&LE u a&&LD u a (N5 a.Op)):=fun b1 b2 b3 b4 b5 b6=>by simp only [Sd,LE,jn];rw [show (⟨0,0,0,0,0,0⟩:A6 Int)=zP from rfl];grind [RP]
   have J16: ∀ b1 b2 b3 b4 b5,Se a b1 b2 b3 b4 b5=some (b1&&b2&&b3&&b4&&b5&&LF u a&&LE u a&&LD u a (N5 a.Op)):=fun b1 b2 b3 b4 b5=>by simp only [Se,LF,jn];simp only [k9,hm,Option.bind_some,J18];cases u.ajy<;>rfl
   have J14: ∀ b1 b2 b3 b4,Sf a b1 b2 b3 b4=some (b1&&b2&&b3&&b4&&tb u a&&LF u a&&LE u a&&LD u a (N5 a.Op)):=fun b1 b2 b3 b4=>by simp only [Sf,tb,jn];rw [show (⟨(0:Int),(0:Int),(0:Int),(⟨(0:Int),(0:Int),(0:Int),(0:Int),(0:Int),(0:Int),(0:Int),[],(0:Int),(0:Int),(⟨(0:Int),(0:Int)⟩:Ac),(⟨(0:Int),(0:Int)⟩:Ac),(⟨(0:Int),(0:Int)⟩:Ac)⟩:Ag)⟩:AW)=zA from rfl];simp only [k3,Aig,Option.bind_some,J16];cases u.aem<;>rfl
   have J4: ∀ b1,Wh a b1=some (b1&&UJ u a&&pN u a&&UK u a&&tb u a&&LF u a&&LE u a&&LD u a (N5 a.Op)):=fun b1=>by
    simp only [Wh,jn];have z1:(if a.AT==0 then true else(if(if u.aj0=true then decide (0<a.AT)else false) then decide (a.AT<=4)else false))=UJ u a:=by unfold UJ;grind
    have z2:(if a.r_==0 then true else(if u.counter then cnB a.r_ else false))=pN u a:=by unfold pN cnB;grind
    have z3: ∀ g:Bool,(if g then c else default)=if g then c else []:=fun g=>rfl
    simp only [k4,k5,k6,RP,c1,Option.bind_some,pG,J14];rw [<-z1, <-z2];unfold UK;cases hz:a.AT==0<;>cases hc:a.r_==0<;>cases aCH:u.aiN<;>cases hcu:u.counter<;>cases hzu:u.aj0<;>simp [c3]
   simp only [h2,h4,k2,Option.bind_some,Aif,J4];unfold Adt Ads;grind
 ·have e1:Gv a n=some false:=by
   have hw:Gu a.Op=some []:=by
    by_cases h0:a.Op=0
    ·rw [h0];rfl
    ·unfold Gu;grind
   have hof:T (JI a.Op):=by
    simp only [JI,TW,QU,QT,TV,TU,TT,jn]
    repeat' (first | exact⟨_,rfl⟩ | refine Tif ?_ ?_)
   grind [Gv,lY]
  have e2:Sh a n=some false:=by
   have hw:MH a.Op=some []:=by unfold MH;grind
   grind [Sh]
  grind
theorem Aeo (a:Av) (n:Int):Gv a n=some (xj a n):=by obtain⟨b,h, -⟩:=pO a n;unfold xj;rw [h];rfl
theorem Aij (a:Av) (n:Int):Sh a n=some (xj a n):=by obtain⟨b,h,h'⟩:=pO a n;rw [h', <-h,Aeo]
end Go.PL
