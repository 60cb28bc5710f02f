/- Plain laws of states: abilities, objects. -/
import Derived.Test.YtenjiecnhncfiaaGreatDoorPlCkU
open Bool (false_eq_true)
namespace Go.PL
open Go
set_option maxRecDepth 100000
set_option linter.all false
set_option maxHeartbeats 4000000
def zPr:BV:=⟨⟨0,0,⟨0,0,0,0,0⟩⟩,false,false,0⟩
def zTr:A0:=⟨0,0,zF⟩
def zl:Au:=⟨0,0,zF,0,0,0,0⟩
theorem ro (a b:AE):EN a b=some ((a.Filter==b.Filter)&&((a.Tg.length:Int)==b.Tg.length)&&(a.y_==b.y_)&&(a.ac0==b.ac0)&&(a.c_==b.c_)&&(a.May==b.May)&&((a.D_.length:Int)==b.D_.length)&&((a.f_.length:Int)==b.f_.length)&&(a.Replace==b.Replace)):=by unfold EN;simp only [Option.bind_some,Vp]
theorem AbL (p:BV): ∃ w,Df p=some w/\(w != [])=IV p:=by obtain⟨w,h1,h2⟩:=AbC p;exact⟨w,h1,by unfold bne;rw [h2];exact Bool.not_not _⟩
def cR (l:List Dc):Bool:=l.all Xs
def oc (l:List Av) (n:Int):Bool:=l.all fun e=>n9 e n
def th (a:AE):Bool:=decide (a.D_.length<=4/\1<=a.f_.length/\a.f_.length<=8)&&(cR a.D_&&oc a.f_ a.D_.length)
theorem j12 (a:AE):GY a=some ((a.Kind != 3||IV a.y_)&&(a.Kind != 4||vm a.c_)):=by obtain⟨w,h1,h2⟩:=AbL a.y_;unfold GY;simp only [h1,AcD,QC,Option.bind_some];cases a.Kind != 3<;>cases a.Kind != 4<;>simp [h2]<;>cases IV a.y_<;>simp
theorem j5 (a:AE) (p:BV) (s:Bool) (t:A0) (m:Bool):LI a a.Kind zF p s t m zl=some (((a.Filter==zF)&&(a.Tg.length==0)&&(a.y_==p)&&(a.ac0==s)&&(a.c_==t)&&(a.May==m)&&(a.Replace==zl))&&(th a&&((a.Kind != 3||IV a.y_)&&(a.Kind != 4||vm a.c_)))):=by
 have e0:((a.Tg.length:Int)==(([]:List A1).length :Int))=(a.Tg.length==0):=by rw [Bool.eq_iff_iff];simp
 simp only [LI,jn];simp only [ro,Option.bind_some,e0,beq_self_eq_true,Bool.and_true,Bool.true_and];generalize (((a.Filter==zF)&&(a.Tg.length==0)&&(a.y_==p)&&(a.ac0==s)&&(a.c_==t)&&(a.May==m))&&(a.Replace==zl))=q;unfold th;by_cases hl:a.D_.length<=4/\1<=a.f_.length/\a.f_.length<=8
 ·have hb:(if(if(if(!q)=true then true else decide ((4:Int)<(a.D_.length:Int)))=true then true else(a.f_.length:Int)==(0:Int)) then true else decide ((8:Int)<(a.f_.length:Int)))= !q:=by
   have d1:decide ((4:Int)<(a.D_.length:Int))=false:=decide_eq_false (by omega);have d2:((a.f_.length:Int)==0)=false:=by rw [beq_eq_false_iff_ne];omega
   have d3:decide ((8:Int)<(a.f_.length:Int))=false:=decide_eq_false (by omega);rw [d1,d2,d3];cases q<;>rfl
  rw [hb,decide_eq_true hl,Bool.true_and];have h1:=yP (l:=a.D_) (q:=Xs) (K:=KI a) (f:=fun x=>some x) (c:=false) (B:=fun v=>DB a v) (by omega) (fun i h=>by
   show DB a (i:Int)=_;unfold DB;obtain⟨w,w1,w2⟩:=AbA a.D_[i];rw [if_pos (by simpa using h),BY h];simp only [Option.bind_some,w1,w2];exact AbD (by omega)) (by
   show DB a _=_;unfold DB;rw [if_neg (by simp)])
  have h2:=yP (l:=a.f_) (q:=fun e=>n9 e a.D_.length) (K:=GY a) (f:=fun x=>some x) (c:=false) (B:=fun v=>DA a v) (by omega) (fun i h=>by
   show DA a (i:Int)=_;unfold DA;rw [if_pos (by simpa using h),BY h];simp only [Option.bind_some,AcF];exact AbD (by omega)) (by
   show DA a _=_;unfold DA;rw [if_neg (by simp)])
  rw [h1];simp only [KI,jn];rw [h2,j12];unfold cR oc;cases q<;>cases a.D_.all Xs<;>cases (a.f_.all fun e=>n9 e a.D_.length)<;>simp
 ·have hb:(if(if(if(!q)=true then true else decide ((4:Int)<(a.D_.length:Int)))=true then true else(a.f_.length:Int)==(0:Int)) then true else decide ((8:Int)<(a.f_.length:Int)))=true:=by
   have:(4<a.D_.length)\/a.f_.length=0\/8<a.f_.length:=by omega
   rcases this with h | h | h
   ·rw [decide_eq_true (p:=(4:Int)<(a.D_.length:Int)) (by omega)];cases q<;>rfl
   ·rw [h];cases q<;>cases decide ((4:Int)<(a.D_.length:Int))<;>rfl
   ·rw [decide_eq_true (p:=(8:Int)<(a.f_.length:Int)) (by omega)];cases q<;>cases decide ((4:Int)<(a.D_.length:Int))<;>cases (a.f_.length:Int)==0<;>rfl
  rw [hb,decide_eq_false hl];simp
def abB (a:AE):Bool:=(CW a).getD false
theorem AbM {l:List Dc} (h:l.length<9223372036854775807):Qi l=some (cR l&&decide (l.length<=4)):=by
 simp only [Qi,jn]
 rw [yP (l:=l) (q:=Xs) (B:=fun v=>E5 l v) h (fun i h'=>by
     show E5 l (i:Int)=_;unfold E5;rw [if_pos (by simpa using h'),BY h'];simp only [Option.bind_some,yM];exact AbD (by omega)) (by
     show E5 l _=_;unfold E5;rw [if_neg (by simp)])]
 unfold Um cR;have:decide ((l.length:Int)<=4)=decide (l.length<=4):=by rw [Bool.eq_iff_iff];simp;omega
 rw [this];cases l.all Xs<;>rfl
theorem AeY {l:List Av} {n:Int} (h:l.length<9223372036854775807):Lm l n=some (oc l n&&decide (1<=l.length/\l.length<=8)):=by
 simp only [Lm,jn]
 rw [yP (l:=l) (q:=fun e=>n9 e n) (B:=fun v=>DD l n v) h (fun i h'=>by
     show DD l n (i:Int)=_;unfold DD;rw [if_pos (by simpa using h'),BY h'];simp only [Option.bind_some,Agy];exact AbD (by omega)) (by
     show DD l n _=_;unfold DD;rw [if_neg (by simp)])]
 unfold PA oc;have:(if(decide ((1:Int)<=(l.length:Int))) then decide ((l.length:Int)<=(8:Int))else false)=decide (1<=l.length/\l.length<=8):=by rw [Bool.eq_iff_iff];simp;omega
 rw [Option.bind_some,this];cases (l.all fun e=>n9 e n)<;>rfl
def AbN (a:AE):Prop:=a.D_.length<9223372036854775807/\a.f_.length<9223372036854775807
theorem tj (a:AE): ∃ b,CW a=some b/\(AbN a->LJ a=some b):=by
 have zf:(⟨(0:Int),(0:Int),(0:Int),(0:Int),(0:Int),(0:Int),(0:Int),[],(0:Int),(0:Int),(⟨(0:Int),(0:Int)⟩:Af),(⟨(0:Int),(0:Int)⟩:Af),(⟨(0:Int),(0:Int)⟩:Af)⟩:Aj)=zF:=rfl;have zr:(⟨(0:Int),(0:Int),zF,(0:Int),(0:Int),(0:Int),(0:Int)⟩:Au)=zl:=rfl;have zt:(⟨(0:Int),(0:Int),zF⟩:A0)=zTr:=rfl;have zp:(⟨(⟨(0:Int),(0:Int),(⟨(0:Int),(0:Int),(0:Int),(0:Int),(0:Int)⟩:A5 (Int))⟩:AB),false,false,(0:Int)⟩:BV)=zPr:=rfl;obtain⟨w,w1,w2,w3⟩:=yW a.Tg;obtain⟨v,v1,v2,v3⟩:=tf a.Tg;have e0:((a.Tg.length:Int)==(([]:List A1).length :Int))=(a.Tg.length==0):=by rw [Bool.eq_iff_iff];simp
 have e1:((a.D_.length:Int)==(([]:List Dc).length :Int))=(a.D_.length==0):=by rw [Bool.eq_iff_iff];simp
 have e2:((a.f_.length:Int)==(([]:List Av).length :Int))=(a.f_.length==0):=by rw [Bool.eq_iff_iff];simp
 have e3:decide ((0:Int)<(a.Tg.length:Int))= !(a.Tg.length==0):=by
  generalize a.Tg=l;cases l
  ·rfl
  ·rw [decide_eq_true (by simp only [List.length_cons];omega)];rfl
 have e4:((a.D_.length:Int)==0)=(a.D_.length==0):=by rw [Bool.eq_iff_iff];simp
 have e5:((a.f_.length:Int)==0)=(a.f_.length==0):=by rw [Bool.eq_iff_iff];simp
 have e6: ∀ h:AbN a,MC a true=some (th a):=fun h=>by unfold MC th;simp only [AbM h.1,AeY h.2,QC,Option.bind_some,if_true];by_cases q1:a.D_.length<=4<;>by_cases q2:1<=a.f_.length/\a.f_.length<=8<;>cases cR a.D_<;>cases oc a.f_ a.D_.length<;>simp [q1,q2]
 have e7:MC a false=some ((a.D_.length==0)&&(a.f_.length==0)):=by unfold MC;simp only [e4,e5,Option.bind_some,Vp];rfl
 by_cases hk:a.Kind=1\/a.Kind=2\/a.Kind=3\/a.Kind=4\/a.Kind=5
 ·rcases hk with k | k | k | k | k
  ·refine⟨(a.Filter.q_==0&&Lo a.Filter&&ME a.Tg)&&((a.y_==zPr)&&(a.ac0==false)&&(a.c_==zTr)&&(a.May==false)&&(a.D_.length==0)&&(a.f_.length==0)&&(a.Replace==zl)),?_,fun hl=>?_⟩
   ·simp only [CW,jn];simp only [zf,zr,zt,zp];rw [if_pos (by simpa using k)];simp only [ro,Ct,w1,QC,Option.bind_some,e1,e2,beq_self_eq_true,Bool.true_and];congr 1;cases a.Filter.q_==0<;>cases Lo a.Filter<;>cases a.y_==zPr<;>cases a.ac0<;>cases a.c_==zTr<;>cases a.May<;>cases a.D_.length==0<;>cases a.f_.length==0<;>cases a.Replace==zl<;>simp [w3]
   ·simp only [LJ,JE,JD,JC,jn];simp only [zf,zr,zt,zp,k];simp only [show decide ((1:Int)<1)=false from rfl,show decide ((5:Int)<1)=false from rfl,show ((1:Int)==2)=false from rfl,show ((1:Int)==3)=false from rfl,show ((1:Int)==4)=false from rfl,show ((1:Int)==5)=false from rfl,show ((1:Int)==1)=true from rfl,Option.bind_some,if_true,if_false,false_eq_true,PF,v1,QC,e7];cases hz:a.Filter.q_==0<;>cases Lo a.Filter<;>cases a.y_==zPr<;>cases a.ac0<;>cases a.c_==zTr<;>cases a.May<;>cases a.Replace==zl<;>simp [v2,bne,hz]
    all_goals cases ME a.Tg<;>simp
  ·refine⟨_,by simp only [CW,jn,zf,zr,zt,zp];rw [if_neg (by simp [k]),if_neg (by simp [k]),if_pos (by simp [k]),j5],fun hl=>?_⟩;simp only [LJ,JE,JD,JC,jn];simp only [zf,zr,zt,zp,k];simp only [show decide ((2:Int)<1)=false from rfl,show decide ((5:Int)<2)=false from rfl,show ((2:Int)==2)=true from rfl,show ((2:Int)==3)=false from rfl,show ((2:Int)==4)=false from rfl,show ((2:Int)==5)=false from rfl,show ((2:Int)==1)=false from rfl,Option.bind_some,if_true,if_false,false_eq_true,e3,e6 hl,bne,Bool.not_false,Bool.true_or];cases a.Filter==zF<;>cases a.Tg.length==0<;>cases a.y_==zPr<;>cases a.ac0<;>cases a.c_==zTr<;>cases a.May<;>cases a.Replace==zl<;>simp
  ·refine⟨_,by simp only [CW,jn,zf,zr,zt,zp];rw [if_neg (by simp [k]),if_neg (by simp [k]),if_neg (by simp [k]),if_pos (by simp [k]),j5],fun hl=>?_⟩;simp only [LJ,JE,JD,JC,jn];simp only [zf,zr,zt,zp,k];simp only [show decide ((3:Int)<1)=false from rfl,show decide ((5:Int)<3)=false from rfl,show ((3:Int)==2)=false from rfl,show ((3:Int)==3)=true from rfl,show ((3:Int)==4)=false from rfl,show ((3:Int)==5)=false from rfl,show ((3:Int)==1)=false from rfl,Option.bind_some,if_true,if_false,false_eq_true,e3,e6 hl,bne,Bool.not_false,Bool.not_true,Bool.true_or,Bool.false_or,AbB,beq_self_eq_true];cases a.Filter==zF<;>cases a.Tg.length==0<;>cases IV a.y_<;>cases a.c_==zTr<;>cases a.May<;>cases a.Replace==zl<;>simp
  ·refine⟨_,by simp only [CW,jn,zf,zr,zt,zp];rw [if_neg (by simp [k]),if_neg (by simp [k]),if_neg (by simp [k]),if_neg (by simp [k]),if_pos (by simp [k]),j5],fun hl=>?_⟩;simp only [LJ,JE,JD,JC,jn];simp only [zf,zr,zt,zp,k];simp only [show decide ((4:Int)<1)=false from rfl,show decide ((5:Int)<4)=false from rfl,show ((4:Int)==2)=false from rfl,show ((4:Int)==3)=false from rfl,show ((4:Int)==4)=true from rfl,show ((4:Int)==5)=false from rfl,show ((4:Int)==1)=false from rfl,Option.bind_some,if_true,if_false,false_eq_true,e3,e6 hl,bne,Bool.not_false,Bool.not_true,Bool.true_or,Bool.false_or,Agw,beq_self_eq_true];cases a.Filter==zF<;>cases a.Tg.length==0<;>cases a.y_==zPr<;>cases a.ac0<;>cases vm a.c_<;>cases a.Replace==zl<;>simp
  ·refine⟨yU a.Replace&&((a.Filter==zF)&&(a.Tg.length==0)&&(a.y_==zPr)&&(a.ac0==false)&&(a.c_==zTr)&&(a.May==false)&&(a.D_.length==0)&&(a.f_.length==0)),?_,fun hl=>?_⟩
   ·simp only [CW,jn];simp only [zf,zr,zt,zp];rw [if_neg (by simp [k]),if_pos (by simpa using k)];simp only [ro,AcE,QC,Option.bind_some,e0,e1,e2,beq_self_eq_true,Bool.and_true];congr 1;cases a.Filter==zF<;>cases a.Tg.length==0<;>cases a.y_==zPr<;>cases a.ac0<;>cases a.c_==zTr<;>cases a.May<;>cases a.D_.length==0<;>cases a.f_.length==0<;>simp
   ·simp only [LJ,JE,JD,JC,jn];simp only [zf,zr,zt,zp,k];simp only [show decide ((5:Int)<1)=false from rfl,show decide ((5:Int)<5)=false from rfl,show ((5:Int)==2)=false from rfl,show ((5:Int)==3)=false from rfl,show ((5:Int)==4)=false from rfl,show ((5:Int)==5)=true from rfl,show ((5:Int)==1)=false from rfl,Option.bind_some,if_true,if_false,false_eq_true,e3,e7,bne,Bool.not_false,Bool.not_true,Agx];cases a.Filter==zF<;>cases a.Tg.length==0<;>cases a.y_==zPr<;>cases a.ac0<;>cases a.c_==zTr<;>cases a.May<;>cases yU a.Replace<;>simp
 ·have k1:(a.Kind==1)=false:=by simp;omega
  have k2:(a.Kind==2)=false:=by simp;omega
  have k3:(a.Kind==3)=false:=by simp;omega
  have k4:(a.Kind==4)=false:=by simp;omega
  have k5:(a.Kind==5)=false:=by simp;omega
  refine⟨false,?_,fun hl=>?_⟩
  ·simp only [CW,jn];simp only [k1,k2,k3,k4,k5,false_eq_true,if_false]
  ·simp only [LJ,jn];rw [Option.bind_some,if_pos (by simp;omega)]
theorem Agz (a:AE):CW a=some (abB a):=by obtain⟨b,h, -⟩:=tj a;unfold abB;rw [h];rfl
theorem AgA {a:AE} (hl:AbN a):LJ a=some (abB a):=by obtain⟨b,h,h'⟩:=tj a;rw [h' hl, <-h,Agz]
end Go.PL
