/- Plain laws of states: effects, abilities. -/
import Derived.Test.YteginlijmbcopaaGreatDoorPlCkT
namespace Go.PL
open Go
set_option maxRecDepth 100000
set_option linter.all false
set_option maxHeartbeats 4000000
theorem dY {α:Type} [Inhabited α] (l:List α) (q:α->Bool):((List.range l.length).all fun i=>q (l.getD i default))=l.all q:=by
 rw [Bool.eq_iff_iff,List.all_eq_true,List.all_eq_true];constructor
 ·intro h x hx;obtain⟨i,hi,rfl⟩:=List.mem_iff_getElem.1 hx;simp_all
 grind
theorem AdB {α β γ:Type} [Inhabited α] {l:List α} {q:α->Bool} {c:β} {B:Int->Option (Int⊕(Unit⊕β))} {K:Option γ} {f:β->Option γ} (hn:l.length<9223372036854775807)
 (hB: ∀ (i:Nat) (h:i<l.length),B (i:Int)=some (if q l[i]=true then .inl ((i:Int)+1)else .inr (.inr c))) (hE:B (l.length:Int)=some (.inr (.inl ()))):
 (iter B FU 0).bind (Sum.elim (fun _=>K) f)=if l.all q=true then K else f c:=by
 rw [Adr (p:=fun i=>q (l.getD i default)) l.length hn (fun i hi=>by rw [hB i hi,qj hi]) hE,dY]
theorem Afi {β:Type} {b:Bool} {c:β} {i:Nat} (hi:i<9223372036854775807):(if !b then some (.inr (.inr c))else some (.inl (Ac ((i:Int)+1))):Option (Int⊕(Unit⊕β)))=some (if b then .inl ((i:Int)+1)else .inr (.inr c)):=by grind [Ao]
def zR:Mm:=⟨0,0,zF⟩
def zA:BC:=⟨0,0,0,zF⟩
def zP:A6 Int:=⟨0,0,0,0,0,0⟩
def AdC (r:Mm) (n:Int):Bool:=(Uq r n).getD false
theorem Afj (r:Mm) (n:Int):Uq r n=some (AdC r n):=by obtain⟨b,h⟩:=Afe r n;unfold AdC;rw [h];rfl
def AdD (m:BC):Bool:=(HV m).getD false
theorem Afk (m:BC):HV m=some (AdD m):=by obtain⟨b,h⟩:=Afd m;unfold AdD;rw [h];rfl
def Aai (m:BB):Bool:=(HW m).getD false
theorem Afl (m:BB):HW m=some (Aai m):=by obtain⟨b,h⟩:=Afg m;unfold Aai;rw [h];rfl
def Afm (m:Ay):Bool:=(HU m).getD false
theorem Afn (m:Ay):HU m=some (Afm m):=by obtain⟨b,h⟩:=Afh m;unfold Afm;rw [h];rfl
def wN (a:A6 Int):Bool:=oS (qA a)
theorem AdE (a:A6 Int): ∃ w,FM a=some w/\(w==[])= !wN a/\(w != [])=wN a:=by have h:=tb (qA a);exact⟨_,Adx a,h,by unfold bne;rw [h];exact Bool.not_not _⟩
theorem wO (l:List B4): ∃ w,Fp l=some w/\(w==[])= !lN l/\(w != [])=lN l:=by obtain⟨w,h1,h2⟩:=Aaf l;grind
def AdF (u:AN) (a:AA) (n:Int):Bool:=if u.ref then AdC a.Ref n else a.Ref==zR
def Aaj (u:AN) (a:AA):Bool:=if u.af7 then AdD a.aem else a.aem==zA
def wP (u:AN) (a:AA):Bool:=if u.counter then cnB a.Tl else a.Tl==0
def dZ (u:AN) (a:AA):Bool:=if u.anW then decide (0<=a.B_)&&decide (a.B_<=4)else a.B_==0
def Zz (u:AN) (a:AA):Bool:=if u.aiU then SA a.Ti else a.Ti==[]
def VH (u:AN) (a:AA) (z:Int):Bool:=if u.filter then Zx a.Filter&&a.Filter.B_==z else a.Filter==zF
def SD (u:AN) (a:AA):Bool:=if u.amJ then !(a.acj==zP)&&wN a.acj else a.acj==zP
def P3 (u:AN) (a:AA):Bool:=if u.alH then lN a.abn else(a.abn.length:Int)==0
theorem j25 (b:Bool):MD b=some (!b):=by cases b<;>rfl
theorem j22 (a:AA) (u:AN) (b:Bool):HX a u b=some (!b&&P3 u a):=by
 obtain⟨w,h1,h2,h3⟩:=wO a.abn;cases b
 ·simp only [HX,P3,jn];simp only [h1,j25,iu];cases hu:u.alH
  ·simp;grind
  grind
 ·rfl
theorem j19 (a:AA) (u:AN) (b:Bool):HY a u b=some (!b&&(SD u a&&P3 u a)):=by
 obtain⟨w,h1,h2,h3⟩:=AdE a.acj;cases b
 ·simp only [HY,SD,jn];rw [show (⟨0,0,0,0,0,0⟩:A6 Int)=zP from rfl];grind [j22,iu]
 ·rfl
theorem j16 (a:AA) (u:AN) (z:Int) (b:Bool):HZ a u z b=some (!b&&(VH u a z&&(SD u a&&P3 u a))):=by
 cases b
 ·simp only [HZ,VH,jn];rw [show (⟨(0:Int),(0:Int),(0:Int),(0:Int),(0:Int),(0:Int),(0:Int),[],(0:Int),(0:Int),(⟨(0:Int),(0:Int)⟩:Aj),(⟨(0:Int),(0:Int)⟩:Aj),(⟨(0:Int),(0:Int)⟩:Aj)⟩:Aq)=zF from rfl];grind [FO,j19,iu]
 ·rfl
theorem j13 (a:AA) (u:AN) (z:Int) (b:Bool):H5 a u z b=some (!b&&(Zz u a&&(VH u a z&&(SD u a&&P3 u a)))):=by
 cases b
 ·simp only [H5,Zz,jn];grind [hZ,j16,iu]
 ·rfl
theorem j10 (a:AA) (u:AN) (z:Int) (b:Bool):H6 a u z b=some (!b&&(dZ u a&&(Zz u a&&(VH u a z&&(SD u a&&P3 u a))))):=by grind [H6,dZ,jn,j13,decide]
theorem j7 (a:AA) (u:AN) (z:Int) (b:Bool):I9 a u z b=some (!b&&(wP u a&&(dZ u a&&(Zz u a&&(VH u a z&&(SD u a&&P3 u a)))))):=by
 obtain⟨w,h1,h2,h3⟩:=wM a.Tl;cases b
 ·simp only [I9,wP,jn];grind [j10,iu]
 ·rfl
theorem j4 (a:AA) (u:AN) (z:Int) (b:Bool):Ja a u z b=some (!b&&(Aaj u a&&(wP u a&&(dZ u a&&(Zz u a&&(VH u a z&&(SD u a&&P3 u a))))))):=by
 cases b
 ·simp only [Ja,Aaj,jn];rw [show (⟨(0:Int),(0:Int),(0:Int),(⟨(0:Int),(0:Int),(0:Int),(0:Int),(0:Int),(0:Int),(0:Int),[],(0:Int),(0:Int),(⟨(0:Int),(0:Int)⟩:Aj),(⟨(0:Int),(0:Int)⟩:Aj),(⟨(0:Int),(0:Int)⟩:Aj)⟩:Aq)⟩:BC)=zA from rfl];grind [Afk,j7,iu]
 ·rfl
theorem j2 (a:AA) (u:AN) (n z:Int):Jb a u n z=some (AdF u a n&&(Aaj u a&&(wP u a&&(dZ u a&&(Zz u a&&(VH u a z&&(SD u a&&P3 u a))))))):=by simp only [Jb,AdF,jn];rw [show (⟨(0:Int),(0:Int),(⟨(0:Int),(0:Int),(0:Int),(0:Int),(0:Int),(0:Int),(0:Int),[],(0:Int),(0:Int),(⟨(0:Int),(0:Int)⟩:Aj),(⟨(0:Int),(0:Int)⟩:Aj),(⟨(0:Int),(0:Int)⟩:Aj)⟩:Aq)⟩:Mm)=zR from rfl];grind [Afj,j4,iu]
def wQ (k:Int):Int:=if k=21 then 2 else 0
def Afo (u:AN) (a:AA) (n:Int):Bool:=AdF u a n&&(Aaj u a&&(wP u a&&(dZ u a&&(Zz u a&&(VH u a (wQ a.Op)&&(SD u a&&P3 u a))))))
theorem Aak (a:AA) (u:AN) (n:Int):Jx a u n=some (Afo u a n):=by grind [Jx,Afo,wQ,jn,j2]
def Aal (a:AA) (n:Int):Bool:=(JP a n).getD false
theorem tf:((List.range 27).all fun i=>(IH (i:Int)).isSome)=true:=by kernel_rfl
theorem Afp (a:AA) (n:Int):T (JP a n):=by
 obtain⟨u,hu⟩:T (Ps a.Op):=by
  simp only [Ps,Sd,PV,PU,Sc,Sb,Sa,jn]
  repeat' (first | exact⟨_,rfl⟩ | refine vZ ?_ ?_)
 obtain⟨w,hw⟩:T (IH a.Op):=by
  by_cases hk:0<=a.Op/\a.Op<=26
  ·have t:=List.all_eq_true.1 tf a.Op.toNat (List.mem_range.2 (by omega));grind [Option.isSome_iff_exists]
  ·refine⟨[],?_⟩;unfold IH;grind
 unfold JP;simp only [hw,hu,Aak,iu,Option.bind_some];grind
theorem Afq (a:AA) (n:Int):JP a n=some (Aal a n):=by obtain⟨b,h⟩:=Afp a n;unfold Aal;rw [h];rfl
end Go.PL
