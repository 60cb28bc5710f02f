/- Plain laws of games dealt in any state: copies. -/
import Derived.Test.YteginlijmbcopaaGreatDoorPlRcB
import Derived.Test.YteginlijmbcopaaGreatDoorPlBlX
open List (getElem_mem)
open Int (toNat_natCast)
namespace Go.PL
open Go
set_option linter.all false
set_option maxRecDepth 100000
set_option maxHeartbeats 1000000
def E8 {α:Type} (b:Nat) (l:List α):Prop:=l.length*b<=140737488355328
theorem E8.len {α:Type} {b:Nat} {l:List α} (h:E8 b l) (hb:1<=b):l.length<=140737488355328:=Nat.le_trans (Nat.le_mul_of_pos_right _ hb) h
theorem E8.amB {α:Type} {b:Nat} {l:List α} (h:E8 b l) (hb:1<=b):app b [] l=some l:=by have:=h.len hb;grind [Ds,E8,maxLen]
theorem E8.tk {α:Type} {b:Nat} {l:List α} {k:Nat} (h:E8 b l) (hb:1<=b) (hk:k<l.length):app b (l.take k) [l[k]]=some (l.take (k+1)):=by have h2:=h.len hb;have h1:(k+1)*b<=l.length*b:=Nat.mul_le_mul_right _ hk;unfold E8 at h;rw [Ds ⟨by simp only [List.length_take,List.length_cons,List.length_nil];rw [Nat.min_eq_left (by omega)];exact Nat.le_trans h1 h,by unfold maxLen;simp;omega⟩];simp_all
structure aY (a:AG):Prop where
 m:E8 176 a.aai
 s:E8 144 a.acg
 e:E8 560 a.w_
 em: ∀ e∈a.w_,E8 176 e.aai
structure Gb (s:Aa):Prop where
 p:E8 152 s.a_
 pl: ∀ p∈s.a_,E8 8 p.g_/\E8 8 p.Hand/\E8 8 p.AT
 o:E8 128 s.b_
 bf:E8 8 s.l_
 ex:E8 8 s.T_
 st:E8 824 s.Stack
 sti: ∀ x∈s.Stack,aY x.C_/\E8 16 x.aaF
 wa:E8 768 s.o_
 wai: ∀ x∈s.o_,aY x.C_
 co:E8 80 s.v_
 coi: ∀ x∈s.v_,E8 8 x.b_/\E8 176 x.aai
 xt:E8 8 s.Extra
theorem Ff {l:List Int} (h:E8 8 l):BU l=some l:=by unfold BU;rw [h.amB (by omega)];rfl
theorem S1 {n:Nat} {i:Nat} (h:i<n):decide ((i:Int)<(n:Int))=true:=by grind
theorem ltF (n:Nat): ¬decide ((n:Int)<(n:Int))=true:=by simp
theorem Adn {a:AG} (h:aY a):H6 a=some a:=by
 have hl:=h.e.len (by omega);unfold H6 jn;rw [h.m.amB (by omega),h.s.amB (by omega)];simp only [Option.bind_some];rw [Ch (s0:=((0:Int),a.Kind,a.Filter,a.afC,a.alb,a.acv,a.May,a.Replace,[])) (fun k=>((k:Int),a.Kind,a.Filter,a.afC,a.alb,a.acv,a.May,a.Replace,a.w_.take k)) (r:=(a.Kind,a.Filter,a.afC,a.alb,a.acv,a.May,a.Replace,a.w_)) a.w_.length (by omega) (fun i hi=>?_) ?_ rfl]
 ·rfl
 ·simp_all [In]
 ·dsimp only;unfold In;rw [if_pos (S1 hi),Al hi];simp only [Option.bind_some];rw [(h.em _ (getElem_mem hi)).amB (by omega)];simp only [Option.bind_some];rw [show (⟨a.w_[i].Op,a.w_[i].Ref,a.w_[i].adD,a.w_[i].R_,a.w_[i].O_,a.w_[i].aag,a.w_[i].Filter,a.w_[i].ab7,a.w_[i].aai⟩:AF)=a.w_[i]from rfl,h.e.tk (by omega) hi,N_ (by omega)];rfl
theorem Xf {s:Aa} (h:Gb s):JY s=some s:=by
 have lp:=h.p.len (by omega);have ls:=h.st.len (by omega);have lw:=h.wa.len (by omega);have lc:=h.co.len (by omega);unfold JY jn;rw [Ch (s0:=((0:Int),s.b_,s.l_,s.T_,s.Stack,s.o_,s.v_,s.I_,s.k_,s.Step,s.H_,s.Priority,s.Passes,s.f_,s.c_,s.Tw,s.Extra,s.aae,s.z_,[])) (fun k=>((k:Int),s.b_,s.l_,s.T_,s.Stack,s.o_,s.v_,s.I_,s.k_,s.Step,s.H_,s.Priority,s.Passes,s.f_,s.c_,s.Tw,s.Extra,s.aae,s.z_,s.a_.take k)) (r:=(s.b_,s.l_,s.T_,s.Stack,s.o_,s.v_,s.I_,s.k_,s.Step,s.H_,s.Priority,s.Passes,s.f_,s.c_,s.Tw,s.Extra,s.aae,s.z_,s.a_)) s.a_.length (by omega) (fun i hi=>?_) ?_ rfl]
 ·dsimp only [Option.bind_some];unfold Sw jn;rw [h.o.amB (by omega),Ff h.bf,Ff h.ex];simp only [Option.bind_some];rw [Ch (s0:=((0:Int),s.o_,s.v_,s.I_,s.k_,s.Step,s.H_,s.Priority,s.Passes,s.f_,s.c_,s.Tw,s.Extra,s.aae,s.z_,[])) (fun k=>((k:Int),s.o_,s.v_,s.I_,s.k_,s.Step,s.H_,s.Priority,s.Passes,s.f_,s.c_,s.Tw,s.Extra,s.aae,s.z_,s.Stack.take k)) (r:=(s.o_,s.v_,s.I_,s.k_,s.Step,s.H_,s.Priority,s.Passes,s.f_,s.c_,s.Tw,s.Extra,s.aae,s.z_,s.Stack)) s.Stack.length (by omega) (fun i hi=>?_) ?_ rfl]
  ·dsimp only [Option.bind_some];unfold Sv jn;rw [Ch (s0:=((0:Int),s.v_,s.I_,s.k_,s.Step,s.H_,s.Priority,s.Passes,s.f_,s.c_,s.Tw,s.Extra,s.aae,s.z_,[])) (fun k=>((k:Int),s.v_,s.I_,s.k_,s.Step,s.H_,s.Priority,s.Passes,s.f_,s.c_,s.Tw,s.Extra,s.aae,s.z_,s.o_.take k)) (r:=(s.v_,s.I_,s.k_,s.Step,s.H_,s.Priority,s.Passes,s.f_,s.c_,s.Tw,s.Extra,s.aae,s.z_,s.o_)) s.o_.length (by omega) (fun i hi=>?_) ?_ rfl]
   ·dsimp only [Option.bind_some];unfold Su jn;rw [Ch (s0:=((0:Int),s.I_,s.k_,s.Step,s.H_,s.Priority,s.Passes,s.f_,s.c_,s.Tw,s.Extra,s.aae,s.z_,[])) (fun k=>((k:Int),s.I_,s.k_,s.Step,s.H_,s.Priority,s.Passes,s.f_,s.c_,s.Tw,s.Extra,s.aae,s.z_,s.v_.take k)) (r:=(s.I_,s.k_,s.Step,s.H_,s.Priority,s.Passes,s.f_,s.c_,s.Tw,s.Extra,s.aae,s.z_,s.v_)) s.v_.length (by omega) (fun i hi=>?_) ?_ rfl]
    ·dsimp only [Option.bind_some];unfold Ss;rw [Ff h.xt];rfl
    ·simp_all [K6]
    ·dsimp only;unfold K6;rw [if_pos (S1 hi),Al hi];simp only [Option.bind_some];rw [Ff (h.coi _ (getElem_mem hi)).1,(h.coi _ (getElem_mem hi)).2.amB (by omega)];simp only [Option.bind_some];rw [show (⟨s.v_[i].adf,s.v_[i].Control,s.v_[i].Source,s.v_[i].akw,s.v_[i].b_,s.v_[i].aai⟩:AY)=s.v_[i]from rfl,h.co.tk (by omega) hi,N_ (by omega)];rfl
   ·simp_all [K7]
   ·dsimp only;unfold K7;rw [if_pos (S1 hi),Al hi];simp only [Option.bind_some];rw [Adn (h.wai _ (getElem_mem hi))];simp only [Option.bind_some];rw [h.wa.tk (by omega) hi,N_ (by omega)];rfl
  ·simp_all [K8]
  ·dsimp only;unfold K8;rw [if_pos (S1 hi),Al hi];simp only [Option.bind_some];rw [Adn (h.sti _ (getElem_mem hi)).1];simp only [Option.bind_some];rw [(h.sti _ (getElem_mem hi)).2.amB (by omega)];simp only [Option.bind_some];rw [h.st.tk (by omega) hi,N_ (by omega)];rfl
 ·simp_all [La]
 ·dsimp only;unfold La;rw [if_pos (S1 hi),Al hi];simp only [Option.bind_some];have hp:=h.pl _ (getElem_mem hi);rw [Ff hp.1,Ff hp.2.1,Ff hp.2.2];simp only [Option.bind_some];rw [h.p.tk (by omega) hi,N_ (by omega)];rfl
theorem E8.cl {α:Type} {b:Nat} {l:List α} (h:E8 b l) (hb:1<=b):(if l.length*b<=140737488355328/\l.length<=maxLen then some l else none)=some l:=by have:=h.len hb;exact if_pos ⟨h,by unfold maxLen;omega⟩
theorem rF {α:Type} {l:List α} {i:Nat} (h:i<l.length):l.set i l[i]=l:=by simp
theorem zo {a:AG} (h:aY a):Dv a=some a:=by
 have hl:=h.e.len (by omega);unfold Dv jn;rw [show AL a.aai=some a.aai from h.m.cl (by omega),show BG a.acg=some a.acg from h.s.cl (by omega),show Br a.w_=some a.w_ from h.e.cl (by omega)];simp only [Option.bind_some];rw [Ch (s0:=((0:Int),a.w_)) (fun k=>((k:Int),a.w_)) (r:=a.w_) a.w_.length (by omega) (fun i hi=>?_) ?_ rfl]
 ·rfl
 ·simp_all [EC]
 ·dsimp only;unfold EC;rw [if_pos (S1 hi)];simp only [Al hi,Option.bind_some];rw [show AL a.w_[i].aai =some a.w_[i].aai from(h.em _ (getElem_mem hi)).cl (by omega)];simp only [Option.bind_some];rw [show ({a.w_[i]with aai:=a.w_[i].aai}:AF)=a.w_[i]from rfl,toNat_natCast,rF hi,N_ (by omega)];rfl
theorem AfV {p:Ap} (h:E8 8 p.g_/\E8 8 p.Hand/\E8 8 p.AT):Fu p=some p:=by unfold Fu;rw [show Ao p.g_=some p.g_ from h.1.cl (by omega),show Ao p.Hand=some p.Hand from h.2.1.cl (by omega),show Ao p.AT=some p.AT from h.2.2.cl (by omega)];rfl
theorem Xg {s:Aa} (h:Gb s):F8 s=some s:=by
 have lp:=h.p.len (by omega);have ls:=h.st.len (by omega);have lw:=h.wa.len (by omega);have lc:=h.co.len (by omega);unfold F8 jn;rw [show Bp s.a_=some s.a_ from h.p.cl (by omega)];simp only [Option.bind_some];rw [Ch (s0:=((0:Int),(0:Int),s.a_)) (fun k=>((k:Int),(k:Int),s.a_)) (r:=((s.a_.length:Int),s.a_)) s.a_.length (by omega) (fun i hi=>?_) ?_ rfl]
 ·dsimp only [Option.bind_some];unfold SA jn;rw [show Bq s.b_=some s.b_ from h.o.cl (by omega),show Ao s.l_=some s.l_ from h.bf.cl (by omega),show Ao s.T_=some s.T_ from h.ex.cl (by omega),show BF s.Stack=some s.Stack from h.st.cl (by omega)];simp only [Option.bind_some];rw [Ch (s0:=((0:Int),s.Stack)) (fun k=>((k:Int),s.Stack)) (r:=s.Stack) s.Stack.length (by omega) (fun i hi=>?_) ?_ rfl]
  ·dsimp only [Option.bind_some];unfold PZ jn;rw [show Bh s.o_=some s.o_ from h.wa.cl (by omega)];simp only [Option.bind_some];rw [Ch (s0:=((0:Int),s.o_)) (fun k=>((k:Int),s.o_)) (r:=s.o_) s.o_.length (by omega) (fun i hi=>?_) ?_ rfl]
   ·dsimp only [Option.bind_some];unfold PY jn;rw [show BH s.v_=some s.v_ from h.co.cl (by omega)];simp only [Option.bind_some];rw [Ch (s0:=((0:Int),s.v_)) (fun k=>((k:Int),s.v_)) (r:=s.v_) s.v_.length (by omega) (fun i hi=>?_) ?_ rfl]
    ·dsimp only [Option.bind_some];unfold PX;rw [show Ao s.Extra=some s.Extra from h.xt.cl (by omega),C5 rfl];rfl
    ·simp_all [Lb]
    ·dsimp only;unfold Lb;rw [if_pos (S1 hi)];have hc:=h.coi _ (getElem_mem hi);simp only [Al hi,Option.bind_some];rw [show Ao s.v_[i].b_ =some s.v_[i].b_ from hc.1.cl (by omega)];simp only [Option.bind_some];rw [show ({s.v_[i]with b_:=s.v_[i].b_}:AY)=s.v_[i]from rfl,toNat_natCast,rF hi];simp only [Al hi,Option.bind_some];rw [show AL s.v_[i].aai =some s.v_[i].aai from hc.2.cl (by omega)];simp only [Option.bind_some];rw [show ({s.v_[i]with aai:=s.v_[i].aai}:AY)=s.v_[i]from rfl,rF hi,N_ (by omega)];rfl
   ·simp_all [Lc]
   ·dsimp only;unfold Lc;rw [if_pos (S1 hi)];simp only [Al hi,Option.bind_some];rw [zo (h.wai _ (getElem_mem hi))];simp only [Option.bind_some];rw [show ({s.o_[i]with C_:=s.o_[i].C_}:AA)=s.o_[i]from rfl,toNat_natCast,rF hi,N_ (by omega)];rfl
  ·simp_all [Ld]
  ·dsimp only;unfold Ld;rw [if_pos (S1 hi)];have hs:=h.sti _ (getElem_mem hi);simp only [Al hi,Option.bind_some];rw [zo hs.1];simp only [Option.bind_some];rw [show ({s.Stack[i]with C_:=s.Stack[i].C_}:AE)=s.Stack[i]from rfl,toNat_natCast,rF hi];simp only [Al hi,Option.bind_some];rw [show Bs s.Stack[i].aaF =some s.Stack[i].aaF from hs.2.cl (by omega)];simp only [Option.bind_some];rw [show ({s.Stack[i]with aaF:=s.Stack[i].aaF}:AE)=s.Stack[i]from rfl,rF hi,N_ (by omega)];rfl
 ·simp_all [Le]
 ·dsimp only;unfold Le;rw [if_pos (S1 hi)];simp only [Al hi,Option.bind_some];rw [C5 (Int.le_refl _),AfV (h.pl _ (getElem_mem hi)),C5 trivial];simp only [Option.bind_some];rw [show (⟨s.a_[i].afD,s.a_[i].ahw,s.a_[i].ahz,s.a_[i].ab7,s.a_[i].afE,s.a_[i].ahy,s.a_[i].g_,s.a_[i].Hand,s.a_[i].AT⟩:Ap)=s.a_[i]from rfl,toNat_natCast,rF hi,N_ (by omega)];rfl
end Go.PL
