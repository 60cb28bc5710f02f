/- The plain law of BeginDeals. -/
import Derived.Test.YteginlijmbcopaaGreatDoorPlBlU
namespace Go.PL
open Go
set_option linter.all false
set_option maxRecDepth 100000
set_option maxHeartbeats 1000000
section
variable {an:List (List Int)}
theorem AhZ {a:List Int} (h:a.length*8<=140737488355328):BQ a=some a/\DH a=some a:=by refine⟨if_pos ⟨h,by unfold maxLen;omega⟩,?_⟩;grind [DH,Ds,maxLen]
abbrev K10:=Int×Int×Int×Int×Int×Int×Int×Bool×Bool×List (List Int)
abbrev K9:=Int×Int×Int×Int×Int×Int×Bool×Bool×Int×List (List Int)
def Ah0 (an:List (List Int)) (v:Int×K10):=BN an v.1 v.2.1 v.2.2.1 v.2.2.2.1 v.2.2.2.2.1 v.2.2.2.2.2.1 v.2.2.2.2.2.2.1 v.2.2.2.2.2.2.2.1 v.2.2.2.2.2.2.2.2.1 v.2.2.2.2.2.2.2.2.2.1 v.2.2.2.2.2.2.2.2.2.2
def Ah1 (an:List (List Int)) (v:Int×K9):=BM an v.1 v.2.1 v.2.2.1 v.2.2.2.1 v.2.2.2.2.1 v.2.2.2.2.2.1 v.2.2.2.2.2.2.1 v.2.2.2.2.2.2.2.1 v.2.2.2.2.2.2.2.2.1 v.2.2.2.2.2.2.2.2.2.1 v.2.2.2.2.2.2.2.2.2.2
theorem aws (hA:E8 24 an) (haL: ∀ a∈an,a.length*8<=140737488355328):iter (Ah0 an) FU (0,0,0,0,0,0,0,0,false,false,[])=some (0,0,0,0,0,0,0,false,false,an):=by
 have hl:=hA.len (by decide);refine Ch (fun k=>((k:Int),0,0,0,0,0,0,0,false,false,an.take k)) an.length (by omega) (fun i hi=>?_) ?_ (by simp)
 ·show BN an (i:Int) 0 0 0 0 0 0 0 false false (an.take i)=_;unfold BN;rw [if_pos (S1 hi),Al hi];simp only [Option.bind_some];rw [(AhZ (haL _ (List.getElem_mem hi))).1];simp only [Option.bind_some];rw [hA.tk (by decide) hi,N_ (by omega)];rfl
 ·show BN an (an.length:Int) 0 0 0 0 0 0 0 false false (an.take an.length)=_;simp_all [BN]
theorem awr (hA:E8 24 an) (haL: ∀ a∈an,a.length*8<=140737488355328):iter (Ah1 an) FU (0,0,0,0,0,0,0,false,false,0,[])=some (0,0,0,0,0,0,false,false,0,an):=by
 have hl:=hA.len (by decide);refine Ch (fun k=>((k:Int),0,0,0,0,0,0,false,false,0,an.take k)) an.length (by omega) (fun i hi=>?_) ?_ (by simp)
 ·show BM an (i:Int) 0 0 0 0 0 0 false false 0 (an.take i)=_;unfold BM;rw [if_pos (S1 hi),Al hi];simp only [Option.bind_some];rw [(AhZ (haL _ (List.getElem_mem hi))).2];simp only [Option.bind_some];rw [hA.tk (by decide) hi,N_ (by omega)];rfl
 ·show BM an (an.length:Int) 0 0 0 0 0 0 false false 0 (an.take an.length)=_;simp_all [BM]
theorem zH (ha:Bg=some true) {x:Aa} {u:Int} {pd:Ac} {w b:Bool} (hs:Co x x=some true) (ho:pd.Options.length<=2):Cp x u pd w b x pd w b u=some true:=by
 cases w with
 | false=>
   have hB:iter (fun(v:Int)=>EH v) FU (0:Int)=some (.inl ()):=(by simp_all [n9,EH]);show EI x u x b u b=_;cases b
   all_goals
    unfold EI Ig If Ie jn;simp only [hB,bne_self_eq_false,beq_self_eq_true,Option.bind_some,if_true,Bool.false_eq_true,if_false,Sum.elim_inl];simp_all [Ic,Uk]
 | true=>
   have c1:AX pd.Options=some pd.Options:=if_pos (by grind [maxLen]);have c2:GA pd=some pd:=by unfold GA;rw [Ds ⟨by simp;omega,by unfold maxLen;simp;omega⟩];rfl
   have hB:iter (fun(v:Int)=>CT pd pd.Options pd v) FU (0:Int)=some (.inl ()):=Acq pd.Options.length (by omega) (fun i hi=>by
    unfold CT;rw [if_pos (S1 hi),Al hi];simp only [Option.bind_some,beq_self_eq_true,Bool.not_true,Bool.false_eq_true,if_false];rw [N_ (by omega)]) (by
    unfold CT;grind)
   have e:Cp x u pd true b x pd true b u=D3 x u pd x b u pd.Options pd b:=by unfold Cp jn;grind
   rw [e];unfold D3 GV GU GT jn;simp only [hB,bne_self_eq_false,beq_self_eq_true,Option.bind_some,if_true,Bool.false_eq_true,if_false,Sum.elim_inl];simp_all [GR,Uk]
theorem Af9 (ha:Bg=some true) (hA:E8 24 an) (haL: ∀ a∈an,a.length*8<=140737488355328) {s:Aa} (d:Dk 1000000 s) (h2:2<=s.a_.length) (awc:0<=s.k_/\s.k_<s.a_.length):
 EK s 0 0 0 0 0 0 0 false false an 0 0 0 0 0 0 false false 0 an=some true:=by
 have hal:=hA.len (by decide);have ho:=zG h2 d.ps awc;unfold Adr at ho;simp only [Bool.and_eq_true,beq_iff_eq,Nat.ble_eq,List.all_eq_true,decide_eq_true_eq]at ho;obtain⟨o1,o2,o3,o4⟩:=ho;obtain⟨a,hAc⟩: ∃ a:Nat,s.k_=a:=(by grind);have hap:a<s.a_.length:=by omega
 have hgt:s.a_.getD s.k_.toNat default=s.a_[a]:=by grind
 rw [hgt]at o2;obtain⟨l,hl⟩: ∃ l,l=if s.a_[a].ahy =true then WT s else s.k_::WT s:=⟨_,rfl⟩
 rw [<-hl]at o2;have hl4:l.length<=4:=by grind
 have hlp: ∀ x∈l, ∃ p:Nat,x=(p:Int)/\p<s.a_.length:=fun x hx=>by
  have:0<=x/\x<s.a_.length:=by grind
  exact⟨x.toNat,by omega,by omega⟩
 obtain⟨t0,ht0⟩: ∃ t0:KT,t0=(s,0,⟨0,0,0,0,0,0,[]⟩,false,false):=⟨_,rfl⟩;have ok0:Kok an s.a_.length 1000000 t0:=by rw [ht0];exact⟨d,(by grind),Nat.zero_le 2,rfl⟩
 obtain⟨t,e1,ok,hs⟩:=Acy (by omega) haL hl4 hlp l.length 0 FU 1000000 t0 (by omega) (by unfold FU;omega) ok0 (by omega);rw [List.drop_zero]at hs;have hd:=ok.d.f;have ad3:Co ({{{t.1 with I_:=1}with Step:=0}with H_:=false}:Aa) ({{{t.1 with I_:=1}with Step:=0}with H_:=false}:Aa)=some true:=AhS ⟨hd.p,hd.pl,hd.o,hd.bf,hd.ex,hd.st,hd.sti,hd.wa,hd.wai,hd.co,hd.coi,hd.xt⟩;have fin:=zH ha (u:=t.2.1) (w:=t.2.2.2.1) (b:=t.2.2.2.2) ad3 ok.o;have hR: ∀ t1:KT,Hs an (WT s) t1 t->D5 s an (fun v=>Cp ({{{t.1 with I_:=1}with Step:=0}with H_:=false}) t.2.1 t.2.2.1 t.2.2.2.1 t.2.2.2.2 v.1 v.2.1 v.2.2.1 v.2.2.2.1 v.2.2.2.2) t1.1 t1.2.2.1 t1.2.2.2.1 t1.2.2.2.2 t1.2.1=some true:=fun t1 h1=>by have e:=zw (an:=an) (l:=WT s) (by omega) (WT s).length 0 FU t1 t (by omega) (by unfold FU;omega) (by grind);unfold D5 jn;rw [o1];rw [show ((0:Nat):Int)=0 from rfl]at e;simp only [Option.bind_some];refine(congrArg (fun o:Option RK=>o.bind _) e).trans ?_;exact fin
 have hr:EJ s 0 0 0 0 0 0 false false 0 an ({{{t.1 with I_:=1}with Step:=0}with H_:=false}) t.2.1 t.2.2.1 t.2.2.2.1 t.2.2.2.2=some true:=by
  unfold EJ jn;rw [Xf d.f];simp only [Option.bind_some];rw [show (if decide ((0:Int)<=s.k_) then decide (s.k_<(s.a_.length:Int))else false)=true by simp [awc.1,awc.2],show idx s.a_ s.k_=some s.a_[a] by rw [hAc];exact Al hap];simp only [Uk,Option.bind_some,beq_self_eq_true,if_true];cases aun:s.a_[a].ahy with
  | true=>
    rw [aun]at hl;have hl:l=WT s:=hl;rw [hl]at hs;rw [if_neg (by simp)];have:=hR t0 hs;rw [ht0]at this;exact this
  | false=>
    rw [aun]at hl;have hl:l=s.k_::WT s:=hl;rw [hl]at hs;obtain⟨p,t1,hp,⟨e,f1,f2,f3⟩,g⟩:=hs;have hpa:s.k_=(p:Int):=hp;have f:=f3 s s hpa;rw [if_pos (by simp)];have:=hR t1 g;have k:iter (rH an s) FU ((7:Int),s,s,(⟨0,0,0,0,0,0,[]⟩:Ac),false,false,(0:Int))=some (if e then .inr (s,rl t1)else .inl (t1.1,s,(rt t1).2)):=by rw [ht0]at f;exact f
    show (iter (rH an s) FU ((7:Int),s,s,(⟨0,0,0,0,0,0,[]⟩:Ac),false,false,(0:Int))).bind _=_;rw [k];cases e
    ·exact this
    ·exact this
 unfold EK jn;rw [Xg d.f];simp only [Option.bind_some];rw [show Ia (⟨s.a_,s.b_,s.l_,s.T_,s.Stack,s.o_,s.v_,s.I_,s.k_,s.Step,s.H_,s.Priority,s.Passes,s.f_,s.c_,s.Tw,s.Extra,s.aae,s.z_⟩:Aa)=some l from o2];simp only [Option.bind_some];rw [ht0,show ((0:Nat):Int)=0 from rfl]at e1;refine(congrArg (fun o:Option KT=>o.bind _) e1).trans ?_;exact hr
theorem a6 (ha:Bg=some true) {adA:List AN} {s:Aa} (hc:zm adA) (f:Gb s) (hA:E8 24 an) (haL: ∀ a∈an,a.length*8<=140737488355328):EX adA s an=some true:=by
 obtain⟨b,h1,h2⟩:=Af8 f adA;have hv:KM adA s=some (if (aW adA).2==0 then b else false):=by unfold KM;rw [zn hc,h1];simp only [Option.bind_some];generalize ((aW adA).2==0)=q;cases q<;>rfl
 unfold EX jn;rw [hv];simp only [Option.bind_some];by_cases hb:(if (aW adA).2==0 then b else false)=true/\s.b_.length<=200
 ·obtain⟨m1,m2⟩:=hb;have hbt:b=true:=by grind
  obtain⟨k1,k2,k3,k4⟩:=h2 hbt;rw [m1,if_neg (by simp;omega)];show (iter (Ah0 an) FU (0,0,0,0,0,0,0,0,false,false,[])).bind _=_;rw [aws hA haL];show EL s an 0 0 0 0 0 0 0 false false an=_;unfold EL jn;show (iter (Ah1 an) FU (0,0,0,0,0,0,0,false,false,0,[])).bind _=_;rw [awr hA haL];exact Af9 ha hA haL (k4 m2) k1 ⟨k2,k3⟩
 grind
end
end Go.PL
