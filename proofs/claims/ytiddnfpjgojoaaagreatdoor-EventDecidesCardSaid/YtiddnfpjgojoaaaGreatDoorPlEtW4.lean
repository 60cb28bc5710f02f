/- Functions that answer: proofs. -/
import Derived.Test.YtiddnfpjgojoaaaGreatDoorPlEdB
import Derived.Test.YtiddnfpjgojoaaaGreatDoorPlEdF10
import Derived.Test.YtiddnfpjgojoaaaGreatDoorPlEdF11
import Derived.Test.YtiddnfpjgojoaaaGreatDoorPlEdF12
import Derived.Test.YtiddnfpjgojoaaaGreatDoorPlEdF14
import Derived.Test.YtiddnfpjgojoaaaGreatDoorPlEdF15
import Derived.Test.YtiddnfpjgojoaaaGreatDoorPlEtL
import Derived.Test.YtiddnfpjgojoaaaGreatDoorPlEtW0
import Derived.Test.YtiddnfpjgojoaaaGreatDoorPlEtW2
import Derived.Test.YtiddnfpjgojoaaaGreatDoorPlEtW3
namespace Go.PL
open Go
set_option maxRecDepth 100000
set_option linter.all false
set_option maxHeartbeats 2000000
theorem Ns {a0:Aq} {r6:List (List UInt8)} {l7_14:List (List UInt8)} (k_a0:AZ a0) (k_r6:B3 16 Fq r6) (p_0:0≤a0.Zone∧a0.Zone≤5∧0≤a0.Who∧a0.Who≤2∧0≤a0.Self∧a0.Self≤2∧0≤a0.Tap∧a0.Tap≤2∧0≤a0.Power.Kind∧a0.Power.Kind≤3∧0≤a0.Tough.Kind∧a0.Tough.Kind≤3∧0≤a0.Value.Kind∧a0.Value.Kind≤3∧a0.Sub.length≤32) (p_1:l7_14.length≤3) (p_2: ∀ y∈l7_14,y.length≤600) (p_3:r6.length=3) (p_4: ∀ y∈r6,y.length≤40):W (Le a0 r6 l7_14) (fun r=>r.length≤31000):=by
 unfold Le
 try simp only [jn]
 refine W.it (fun(v:Int×(List (List UInt8)))=>0≤v.1∧v.1≤6∧(v.2.length:Int)≤3+v.1∧ ∀ y∈v.2,y.length≤600) (fun v=>(6 - v.1).toNat) ?_ ?_ (fun v hv=>?_)
 ·(try dsimp only);first | omega | (simp;omega) | (and_intros<;>first | omega | assumption | (simp;omega) | simp)
 ·(try dsimp only);first | omega | (simp;omega) | (and_intros<;>first | omega | assumption | (simp;omega) | simp)
 ·obtain⟨vt8_115,l7_116⟩:=v
  replace hv:0≤vt8_115∧vt8_115≤6∧(l7_116.length:Int)≤3+vt8_115∧ ∀ y∈l7_116,y.length≤600:=hv
  obtain⟨vv_1,vv_2,vv_3,vv_4⟩:=hv
  show W (Jv a0 vt8_115 l7_116) _
  unfold Jv
  try simp only [jn]
  refine W.if (fun h=>?_) (fun h=>?_)
  ·try simp only [bz]at h
   refine W.bd (Kj (by first | assumption | omega | exact Ae _ | (simp;done) | (simp;omega))) fun r122 _=>W.if (fun h=>?_) (fun h=>?_)
   ·try simp only [bz]at h
    refine W.bd (Nm (by first | assumption | omega | exact Ae _ | (simp;done) | (simp;omega))) (fun r124 q_r124=>?_)
    replace q_r124:r124.length≤500:=q_r124
    have ll_5:([r124]:List (List UInt8)).length =1:=rfl
    refine W.bd (W.app (by first | omega | (simp;omega)) (by unfold maxLen;first | omega | (simp;omega))) (fun l125 q_l125=>?_)
    have ll_6:l125.length=(l7_116).length +([r124]:List (List UInt8)).length :=by rw [q_l125,List.length_append]
    have aa_7: ∀ y∈l125,y.length≤600:=by rw [q_l125];exact D9 vv_4 (Ea (by omega))
    unfold Ju
    have ww_8:Ac (vt8_115+(1:Int))=vt8_115+(1:Int):=Af (by omega) (by omega)
    exact W.nx (by(try dsimp only);first | omega | (and_intros<;>first | omega | assumption) | (simp;omega)) (by(try dsimp only);omega)
   ·try simp only [bz]at h
    unfold Ju
    have ww_9:Ac (vt8_115+(1:Int))=vt8_115+(1:Int):=Af (by omega) (by omega)
    exact W.nx (by(try dsimp only);first | omega | (and_intros<;>first | omega | assumption) | (simp;omega)) (by(try dsimp only);omega)
  ·try simp only [bz]at h
   refine W.ex ?_
   try dsimp only [Sum.elim_inl,Sum.elim_inr]
   unfold Rl
   try simp only [jn]
   refine W.it (fun(v:Int×(List (List UInt8)))=>0≤v.1∧v.1≤6∧(v.2.length:Int)≤9+v.1∧ ∀ y∈v.2,y.length≤600) (fun v=>(6 - v.1).toNat) ?_ ?_ (fun v hv=>?_)
   ·(try dsimp only);first | omega | (simp;omega) | (and_intros<;>first | omega | assumption | (simp;omega) | simp)
   ·(try dsimp only);first | omega | (simp;omega) | (and_intros<;>first | omega | assumption | (simp;omega) | simp)
   ·obtain⟨vt9_100,l7_101⟩:=v
    replace hv:0≤vt9_100∧vt9_100≤6∧(l7_101.length:Int)≤9+vt9_100∧ ∀ y∈l7_101,y.length≤600:=hv
    obtain⟨vv_10,vv_11,vv_12,vv_13⟩:=hv
    show W (Jt a0 vt9_100 l7_101) _
    unfold Jt
    try simp only [jn]
    refine W.if (fun h=>?_) (fun h=>?_)
    ·try simp only [bz]at h
     refine W.bd (Kj (by first | assumption | omega | exact Ae _ | (simp;done) | (simp;omega))) fun r107 _=>W.if (fun h=>?_) (fun h=>?_)
     ·try simp only [bz]at h
      refine W.bd (Nm (by first | assumption | omega | exact Ae _ | (simp;done) | (simp;omega))) (fun r109 q_r109=>?_)
      replace q_r109:r109.length≤500:=q_r109
      have ll_14:JV.length=4:=rfl
      refine W.bd (W.cat (by first | omega | (simp;omega))) (fun s110 q_s110=>?_)
      replace q_s110:s110.length=(JV).length +(r109).length :=q_s110.2
      have ll_15:([s110]:List (List UInt8)).length =1:=rfl
      refine W.bd (W.app (by first | omega | (simp;omega)) (by unfold maxLen;first | omega | (simp;omega))) (fun l111 q_l111=>?_)
      have ll_16:l111.length=(l7_101).length +([s110]:List (List UInt8)).length :=by rw [q_l111,List.length_append]
      have aa_17: ∀ y∈l111,y.length≤600:=by rw [q_l111];exact D9 vv_13 (Ea (by omega))
      unfold Js
      have ww_18:Ac (vt9_100+(1:Int))=vt9_100+(1:Int):=Af (by omega) (by omega)
      exact W.nx (by(try dsimp only);first | omega | (and_intros<;>first | omega | assumption) | (simp;omega)) (by(try dsimp only);omega)
     ·try simp only [bz]at h
      unfold Js
      have ww_19:Ac (vt9_100+(1:Int))=vt9_100+(1:Int):=Af (by omega) (by omega)
      exact W.nx (by(try dsimp only);first | omega | (and_intros<;>first | omega | assumption) | (simp;omega)) (by(try dsimp only);omega)
    ·try simp only [bz]at h
     refine W.ex ?_
     try dsimp only [Sum.elim_inl,Sum.elim_inr]
     unfold Rk
     try simp only [jn]
     refine W.it (fun(v:Int×(List (List UInt8)))=>0≤v.1∧v.1≤5∧(v.2.length:Int)≤15+v.1∧ ∀ y∈v.2,y.length≤600) (fun v=>(5 - v.1).toNat) ?_ ?_ (fun v hv=>?_)
     ·(try dsimp only);first | omega | (simp;omega) | (and_intros<;>first | omega | assumption | (simp;omega) | simp)
     ·(try dsimp only);first | omega | (simp;omega) | (and_intros<;>first | omega | assumption | (simp;omega) | simp)
     ·obtain⟨vt10_86,l7_87⟩:=v
      replace hv:0≤vt10_86∧vt10_86≤5∧(l7_87.length:Int)≤15+vt10_86∧ ∀ y∈l7_87,y.length≤600:=hv
      obtain⟨vv_20,vv_21,vv_22,vv_23⟩:=hv
      show W (Ld a0 vt10_86 l7_87) _
      unfold Ld
      try simp only [jn]
      refine W.if (fun h=>?_) (fun h=>?_)
      ·try simp only [bz]at h
       refine W.bd (Kj (by first | assumption | omega | exact Ae _ | (simp;done) | (simp;omega))) fun r93 _=>W.if (fun h=>?_) (fun h=>?_)
       ·try simp only [bz]at h
        refine W.bd (Lm) (fun r95 q_r95=>?_)
        replace q_r95:r95.length≤10:=q_r95
        have ll_24:([r95]:List (List UInt8)).length =1:=rfl
        refine W.bd (W.app (by first | omega | (simp;omega)) (by unfold maxLen;first | omega | (simp;omega))) (fun l96 q_l96=>?_)
        have ll_25:l96.length=(l7_87).length +([r95]:List (List UInt8)).length :=by rw [q_l96,List.length_append]
        have aa_26: ∀ y∈l96,y.length≤600:=by rw [q_l96];exact D9 vv_23 (Ea (by omega))
        unfold Lc
        have ww_27:Ac (vt10_86+(1:Int))=vt10_86+(1:Int):=Af (by omega) (by omega)
        exact W.nx (by(try dsimp only);first | omega | (and_intros<;>first | omega | assumption) | (simp;omega)) (by(try dsimp only);omega)
       ·try simp only [bz]at h
        unfold Lc
        have ww_28:Ac (vt10_86+(1:Int))=vt10_86+(1:Int):=Af (by omega) (by omega)
        exact W.nx (by(try dsimp only);first | omega | (and_intros<;>first | omega | assumption) | (simp;omega)) (by(try dsimp only);omega)
      ·try simp only [bz]at h
       refine W.ex ?_
       try dsimp only [Sum.elim_inl,Sum.elim_inr]
       unfold Rj
       try simp only [jn]
       refine W.it (fun(v:Int×(List (List UInt8)))=>0≤v.1∧v.1≤5∧(v.2.length:Int)≤20+v.1∧ ∀ y∈v.2,y.length≤600) (fun v=>(5 - v.1).toNat) ?_ ?_ (fun v hv=>?_)
       ·(try dsimp only);first | omega | (simp;omega) | (and_intros<;>first | omega | assumption | (simp;omega) | simp)
       ·(try dsimp only);first | omega | (simp;omega) | (and_intros<;>first | omega | assumption | (simp;omega) | simp)
       ·obtain⟨vt11_71,l7_72⟩:=v
        replace hv:0≤vt11_71∧vt11_71≤5∧(l7_72.length:Int)≤20+vt11_71∧ ∀ y∈l7_72,y.length≤600:=hv
        obtain⟨vv_29,vv_30,vv_31,vv_32⟩:=hv
        show W (Lb a0 vt11_71 l7_72) _
        unfold Lb
        try simp only [jn]
        refine W.if (fun h=>?_) (fun h=>?_)
        ·try simp only [bz]at h
         refine W.bd (Kj (by first | assumption | omega | exact Ae _ | (simp;done) | (simp;omega))) fun r78 _=>W.if (fun h=>?_) (fun h=>?_)
         ·try simp only [bz]at h
          refine W.bd (Lm) (fun r80 q_r80=>?_)
          replace q_r80:r80.length≤10:=q_r80
          have ll_33:JV.length=4:=rfl
          refine W.bd (W.cat (by first | omega | (simp;omega))) (fun s81 q_s81=>?_)
          replace q_s81:s81.length=(JV).length +(r80).length :=q_s81.2
          have ll_34:([s81]:List (List UInt8)).length =1:=rfl
          refine W.bd (W.app (by first | omega | (simp;omega)) (by unfold maxLen;first | omega | (simp;omega))) (fun l82 q_l82=>?_)
          have ll_35:l82.length=(l7_72).length +([s81]:List (List UInt8)).length :=by rw [q_l82,List.length_append]
          have aa_36: ∀ y∈l82,y.length≤600:=by rw [q_l82];exact D9 vv_32 (Ea (by omega))
          unfold La
          have ww_37:Ac (vt11_71+(1:Int))=vt11_71+(1:Int):=Af (by omega) (by omega)
          exact W.nx (by(try dsimp only);first | omega | (and_intros<;>first | omega | assumption) | (simp;omega)) (by(try dsimp only);omega)
         ·try simp only [bz]at h
          unfold La
          have ww_38:Ac (vt11_71+(1:Int))=vt11_71+(1:Int):=Af (by omega) (by omega)
          exact W.nx (by(try dsimp only);first | omega | (and_intros<;>first | omega | assumption) | (simp;omega)) (by(try dsimp only);omega)
        ·try simp only [bz]at h
         refine W.ex ?_
         try dsimp only [Sum.elim_inl,Sum.elim_inr]
         have:=AL (Av k_a0)
         have:=AX k_r6
         exact Yk k_a0 k_r6 (BS (by assumption) (by omega) (by omega)) (by first | assumption | omega | exact Ae _ | (simp;done) | (simp;omega)) (by first | assumption | omega | exact Ae _ | (simp;done) | (simp;omega)) (by first | assumption | omega | exact Ae _ | (simp;done) | (simp;omega)) (by first | assumption | omega | exact Ae _ | (simp;done) | (simp;omega)) (by first | assumption | omega | exact Ae _ | (simp;done) | (simp;omega))
theorem Nt {a0:Aq} {r5:List (List UInt8)} {r6:List (List UInt8)} {l7_11:List (List UInt8)} (k_a0:AZ a0) (k_r5:B3 16 Fq r5) (k_r6:B3 16 Fq r6) (k_l7_11:B3 16 Fq l7_11) (p_0:0≤a0.Zone∧a0.Zone≤5∧0≤a0.Who∧a0.Who≤2∧0≤a0.Self∧a0.Self≤2∧0≤a0.Tap∧a0.Tap≤2∧0≤a0.Power.Kind∧a0.Power.Kind≤3∧0≤a0.Tough.Kind∧a0.Tough.Kind≤3∧0≤a0.Value.Kind∧a0.Value.Kind≤3∧a0.Sub.length≤32) (p_1:l7_11.length≤2) (p_2: ∀ y∈l7_11,y.length≤600) (p_3:r5.length=3) (p_4: ∀ y∈r5,y.length≤40) (p_5:r6.length=3) (p_6: ∀ y∈r6,y.length≤40):W (Lf a0 r5 r6 l7_11) (fun r=>r.length≤31000):=by
 unfold Lf
 try simp only [jn]
 have:=AX k_r5
 refine W.bd (W.idx (by omega)) (fun e13 q_e13=>?_)
 have ll_1:=p_4 e13 q_e13.1
 refine W.if (fun h=>?_) (fun h=>?_)
 ·try simp only [bz]at h
  have:=AL (Av k_a0)
  have:=AX k_l7_11
  have:=AX k_r6
  exact Ns k_a0 k_r6 (by first | assumption | omega | exact Ae _ | (simp;done) | (simp;omega)) (by first | assumption | omega | exact Ae _ | (simp;done) | (simp;omega)) (by first | assumption | omega | exact Ae _ | (simp;done) | (simp;omega)) (by first | assumption | omega | exact Ae _ | (simp;done) | (simp;omega)) (by first | assumption | omega | exact Ae _ | (simp;done) | (simp;omega))
 ·try simp only [bz]at h
  have:=AX k_l7_11
  have ll_3:([e13]:List (List UInt8)).length =1:=rfl
  refine W.bd (W.app (by first | omega | (simp;omega)) (by unfold maxLen;first | omega | (simp;omega))) (fun l127 q_l127=>?_)
  have ll_4:l127.length=(l7_11).length +([e13]:List (List UInt8)).length :=by rw [q_l127,List.length_append]
  have aa_5: ∀ y∈l127,y.length≤600:=by rw [q_l127];exact D9 p_2 (Ea (by omega))
  have:=AL (Av k_a0)
  have:=AX k_r6
  exact Ns k_a0 k_r6 (by first | assumption | omega | exact Ae _ | (simp;done) | (simp;omega)) (by first | assumption | omega | exact Ae _ | (simp;done) | (simp;omega)) (by first | assumption | omega | exact Ae _ | (simp;done) | (simp;omega)) (by first | assumption | omega | exact Ae _ | (simp;done) | (simp;omega)) (by first | assumption | omega | exact Ae _ | (simp;done) | (simp;omega))
theorem ON {a0:Aq} {r4:List (List UInt8)} {r5:List (List UInt8)} {r6:List (List UInt8)} {l7_8:List (List UInt8)} (k_a0:AZ a0) (k_r4:B3 16 Fq r4) (k_r5:B3 16 Fq r5) (k_r6:B3 16 Fq r6) (k_l7_8:B3 16 Fq l7_8) (p_0:0≤a0.Zone∧a0.Zone≤5∧0≤a0.Who∧a0.Who≤2∧0≤a0.Self∧a0.Self≤2∧0≤a0.Tap∧a0.Tap≤2∧0≤a0.Power.Kind∧a0.Power.Kind≤3∧0≤a0.Tough.Kind∧a0.Tough.Kind≤3∧0≤a0.Value.Kind∧a0.Value.Kind≤3∧a0.Sub.length≤32) (p_1:l7_8.length≤1) (p_2: ∀ y∈l7_8,y.length≤600) (p_3:r4.length=3) (p_4: ∀ y∈r4,y.length≤40) (p_5:r5.length=3) (p_6: ∀ y∈r5,y.length≤40) (p_7:r6.length=3) (p_8: ∀ y∈r6,y.length≤40):W (MW a0 r4 r5 r6 l7_8) (fun r=>r.length≤31000):=by
 unfold MW
 try simp only [jn]
 have:=AX k_r4
 refine W.bd (W.idx (by omega)) (fun e10 q_e10=>?_)
 have ll_1:=p_4 e10 q_e10.1
 refine W.if (fun h=>?_) (fun h=>?_)
 ·try simp only [bz]at h
  have:=AL (Av k_a0)
  have:=AX k_l7_8
  have:=AX k_r5
  have:=AX k_r6
  exact Nt k_a0 k_r5 k_r6 k_l7_8 (by first | assumption | omega | exact Ae _ | (simp;done) | (simp;omega)) (by first | assumption | omega | exact Ae _ | (simp;done) | (simp;omega)) (by first | assumption | omega | exact Ae _ | (simp;done) | (simp;omega)) (by first | assumption | omega | exact Ae _ | (simp;done) | (simp;omega)) (by first | assumption | omega | exact Ae _ | (simp;done) | (simp;omega)) (by first | assumption | omega | exact Ae _ | (simp;done) | (simp;omega)) (by first | assumption | omega | exact Ae _ | (simp;done) | (simp;omega))
 ·try simp only [bz]at h
  have:=AX k_l7_8
  have ll_3:([e10]:List (List UInt8)).length =1:=rfl
  refine W.bd (W.app (by first | omega | (simp;omega)) (by unfold maxLen;first | omega | (simp;omega))) (fun l129 q_l129=>?_)
  have ll_4:l129.length=(l7_8).length +([e10]:List (List UInt8)).length :=by rw [q_l129,List.length_append]
  have aa_5: ∀ y∈l129,y.length≤600:=by rw [q_l129];exact D9 p_2 (Ea (by omega))
  have:=AL (Av k_a0)
  have:=AX k_r5
  have:=AX k_r6
  exact Nt k_a0 k_r5 k_r6 (BS (by assumption) (by omega) (by omega)) (by first | assumption | omega | exact Ae _ | (simp;done) | (simp;omega)) (by first | assumption | omega | exact Ae _ | (simp;done) | (simp;omega)) (by first | assumption | omega | exact Ae _ | (simp;done) | (simp;omega)) (by first | assumption | omega | exact Ae _ | (simp;done) | (simp;omega)) (by first | assumption | omega | exact Ae _ | (simp;done) | (simp;omega)) (by first | assumption | omega | exact Ae _ | (simp;done) | (simp;omega)) (by first | assumption | omega | exact Ae _ | (simp;done) | (simp;omega))
theorem mw {a0:Aq} (k_a0:AZ a0):W (Rm a0) (fun r=>r.length≤31000):=by
 unfold Rm
 try simp only [jn]
 refine W.bd (BJ k_a0) (fun r1 q_r1=>?_)
 replace q_r1:r1=true→0≤a0.Zone∧a0.Zone≤5∧0≤a0.Who∧a0.Who≤2∧0≤a0.Self∧a0.Self≤2∧0≤a0.Tap∧a0.Tap≤2∧0≤a0.Power.Kind∧a0.Power.Kind≤3∧0≤a0.Tough.Kind∧a0.Tough.Kind≤3∧0≤a0.Value.Kind∧a0.Value.Kind≤3∧a0.Sub.length≤32:=q_r1
 have:=AL (Av k_a0)
 refine W.if (fun h=>?_) (fun h=>?_)
 ·try simp only [bz]at h
  refine W.rt ?_
  first | assumption | omega | (simp only [bz];omega) | (simp only [bz];intros;omega) | (intros;simp only [bz]at *;omega) | exact⟨by simp,by simp⟩ | decide | simp_all
 ·try simp only [bz]at h
  have qq_1:=q_r1 h
  refine W.bd (Vg) (fun r3 q_r3=>?_)
  replace q_r3:r3.length=6∧ ∀ y∈r3,y.length≤40:=q_r3
  obtain⟨_,q_r3_2⟩:=q_r3
  refine W.bd (Yc) (fun r4 q_r4=>?_)
  replace q_r4:r4.length=3∧ ∀ y∈r4,y.length≤40:=q_r4
  obtain⟨_,_⟩:=q_r4
  refine W.bd (Vh) (fun r5 q_r5=>?_)
  replace q_r5:r5.length=3∧ ∀ y∈r5,y.length≤40:=q_r5
  obtain⟨_,_⟩:=q_r5
  refine W.bd (Yd) (fun r6 q_r6=>?_)
  replace q_r6:r6.length=3∧ ∀ y∈r6,y.length≤40:=q_r6
  obtain⟨_,_⟩:=q_r6
  refine W.bd (W.idx (by omega)) (fun e7 q_e7=>?_)
  have ll_2:=q_r3_2 e7 q_e7.1
  refine W.if (fun h=>?_) (fun h=>?_)
  ·try simp only [bz]at h
   exact ON k_a0 (BS (by assumption) (by omega) (by omega)) (BS (by assumption) (by omega) (by omega)) (BS (by assumption) (by omega) (by omega)) G0 (by first | assumption | omega | exact Ae _ | (simp;done) | (simp;omega)) (by first | assumption | omega | exact Ae _ | (simp;done) | (simp;omega)) (by first | assumption | omega | exact Ae _ | (simp;done) | (simp;omega)) (by first | assumption | omega | exact Ae _ | (simp;done) | (simp;omega)) (by first | assumption | omega | exact Ae _ | (simp;done) | (simp;omega)) (by first | assumption | omega | exact Ae _ | (simp;done) | (simp;omega)) (by first | assumption | omega | exact Ae _ | (simp;done) | (simp;omega)) (by first | assumption | omega | exact Ae _ | (simp;done) | (simp;omega)) (by first | assumption | omega | exact Ae _ | (simp;done) | (simp;omega))
  ·try simp only [bz]at h
   have ll_4:([]:List (List UInt8)).length =0:=rfl
   have ll_5:([e7]:List (List UInt8)).length =1:=rfl
   refine W.bd (W.app (by first | omega | (simp;omega)) (by unfold maxLen;first | omega | (simp;omega))) (fun l131 q_l131=>?_)
   have ll_6:l131.length=([]:List (List UInt8)).length +([e7]:List (List UInt8)).length :=by rw [q_l131,List.length_append]
   have aa_7: ∀ y∈l131,y.length≤600:=by rw [q_l131];exact D9 (fun y hy=>absurd hy (by simp)) (Ea (by omega))
   exact ON k_a0 (BS (by assumption) (by omega) (by omega)) (BS (by assumption) (by omega) (by omega)) (BS (by assumption) (by omega) (by omega)) (BS (by assumption) (by omega) (by omega)) (by first | assumption | omega | exact Ae _ | (simp;done) | (simp;omega)) (by first | assumption | omega | exact Ae _ | (simp;done) | (simp;omega)) (by first | assumption | omega | exact Ae _ | (simp;done) | (simp;omega)) (by first | assumption | omega | exact Ae _ | (simp;done) | (simp;omega)) (by first | assumption | omega | exact Ae _ | (simp;done) | (simp;omega)) (by first | assumption | omega | exact Ae _ | (simp;done) | (simp;omega)) (by first | assumption | omega | exact Ae _ | (simp;done) | (simp;omega)) (by first | assumption | omega | exact Ae _ | (simp;done) | (simp;omega)) (by first | assumption | omega | exact Ae _ | (simp;done) | (simp;omega))
theorem RK {a0:BZ} (k_a0:FR a0):W (dy a0) (fun r=>True):=by
 unfold dy
 try simp only [jn]
 refine W.bd (Ye) fun r1 _=>W.lt fun b2 bb_1=>W.lt fun b3 bb_2=>W.gb (fun _=>RF) fun r4 _=>W.lt fun b5 bb_4=>W.if (fun _=>W.rt trivial) (fun h=>?_)
 try simp only [bb_1,bb_2,bb_4,bz]at h
 refine W.bd (Vi) fun r7 _=>W.if (fun _=>W.rt trivial) (fun h=>?_)
 try simp only [bb_1,bb_2,bb_4,bz]at h
 refine W.if (fun h=>?_) (fun h=>?_)
 ·try simp only [bb_1,bb_2,bb_4,bz]at h
  unfold Px
  refine W.bd (BJ (DF k_a0)) (fun r11 q_r11=>?_)
  replace q_r11:r11=true→0≤a0.Filter.Zone∧a0.Filter.Zone≤5∧0≤a0.Filter.Who∧a0.Filter.Who≤2∧0≤a0.Filter.Self∧a0.Filter.Self≤2∧0≤a0.Filter.Tap∧a0.Filter.Tap≤2∧0≤a0.Filter.Power.Kind∧a0.Filter.Power.Kind≤3∧0≤a0.Filter.Tough.Kind∧a0.Filter.Tough.Kind≤3∧0≤a0.Filter.Value.Kind∧a0.Filter.Value.Kind≤3∧a0.Filter.Sub.length≤32:=q_r11
  have:=AL (Av (DF k_a0))
  refine W.lt fun b12 bb_5=>W.rt trivial
 ·try simp only [bb_1,bb_2,bb_4,bz]at h
  unfold Px
  refine W.bd (BJ (DF k_a0)) (fun r11 q_r11=>?_)
  replace q_r11:r11=true→0≤a0.Filter.Zone∧a0.Filter.Zone≤5∧0≤a0.Filter.Who∧a0.Filter.Who≤2∧0≤a0.Filter.Self∧a0.Filter.Self≤2∧0≤a0.Filter.Tap∧a0.Filter.Tap≤2∧0≤a0.Filter.Power.Kind∧a0.Filter.Power.Kind≤3∧0≤a0.Filter.Tough.Kind∧a0.Filter.Tough.Kind≤3∧0≤a0.Filter.Value.Kind∧a0.Filter.Value.Kind≤3∧a0.Filter.Sub.length≤32:=q_r11
  have:=AL (Av (DF k_a0))
  refine W.lt fun b12 bb_6=>W.rt trivial
theorem Nu {a0:Aq} (k_a0:AZ a0):W (Hs a0) (fun r=>True):=by
 unfold Hs
 refine W.bd (BJ k_a0) (fun r1 q_r1=>?_)
 replace q_r1:r1=true→0≤a0.Zone∧a0.Zone≤5∧0≤a0.Who∧a0.Who≤2∧0≤a0.Self∧a0.Self≤2∧0≤a0.Tap∧a0.Tap≤2∧0≤a0.Power.Kind∧a0.Power.Kind≤3∧0≤a0.Tough.Kind∧a0.Tough.Kind≤3∧0≤a0.Value.Kind∧a0.Value.Kind≤3∧a0.Sub.length≤32:=q_r1
 have:=AL (Av k_a0)
 refine W.lt fun b2 bb_1=>W.rt trivial
theorem my {a0:DB} (k_a0:I9 a0):W (Rn a0) (fun r=>True):=by
 unfold Rn
 refine W.if (fun h=>?_) (fun h=>?_)
 ·try simp only [bz]at h
  refine W.lt fun b2 bb_1=>W.rt trivial
 ·try simp only [bz]at h
  refine W.bd (BJ (Nb k_a0)) (fun r3 q_r3=>?_)
  replace q_r3:r3=true→0≤a0.Filter.Zone∧a0.Filter.Zone≤5∧0≤a0.Filter.Who∧a0.Filter.Who≤2∧0≤a0.Filter.Self∧a0.Filter.Self≤2∧0≤a0.Filter.Tap∧a0.Filter.Tap≤2∧0≤a0.Filter.Power.Kind∧a0.Filter.Power.Kind≤3∧0≤a0.Filter.Tough.Kind∧a0.Filter.Tough.Kind≤3∧0≤a0.Filter.Value.Kind∧a0.Filter.Value.Kind≤3∧a0.Filter.Sub.length≤32:=q_r3
  have:=AL (Av (Nb k_a0))
  refine W.lt fun b4 bb_2=>W.lt fun b5 bb_3=>W.lt fun b6 bb_4=>W.rt trivial
theorem sx {a0:KD} {a1:Int} (k_a0:SX a0):W (dz a0 a1) (fun r=>True):=by
 unfold dz
 try simp only [jn]
 refine W.if (fun h=>?_) (fun h=>?_)
 ·try simp only [bz]at h
  unfold SN
  try simp only [jn]
  refine W.lt fun b3 bb_1=>W.if (fun _=>W.rt trivial) (fun h=>?_)
  try simp only [bb_1,bz]at h
  refine W.bd (Ni) fun r8 q_r8=>W.if (fun h=>?_) (fun h=>?_)
  ·try simp only [bb_1,bz]at h
   refine W.lt fun b10 bb_2=>W.if (fun _=>W.rt trivial) (fun h=>?_)
   try simp only [bb_1,bb_2,bz]at h
   unfold Ka
   refine W.if (fun h=>?_) (fun _=>W.rt trivial)
   try simp only [bb_1,bb_2,bz]at h
   refine W.bd (BJ (Cq k_a0)) (fun r7 q_r7=>?_)
   replace q_r7:r7=true→0≤a0.Filter.Zone∧a0.Filter.Zone≤5∧0≤a0.Filter.Who∧a0.Filter.Who≤2∧0≤a0.Filter.Self∧a0.Filter.Self≤2∧0≤a0.Filter.Tap∧a0.Filter.Tap≤2∧0≤a0.Filter.Power.Kind∧a0.Filter.Power.Kind≤3∧0≤a0.Filter.Tough.Kind∧a0.Filter.Tough.Kind≤3∧0≤a0.Filter.Value.Kind∧a0.Filter.Value.Kind≤3∧a0.Filter.Sub.length≤32:=q_r7
   have:=AL (Av (Cq k_a0))
   exact W.rt trivial
  ·try simp only [bb_1,bz]at h
   refine W.if (fun _=>W.rt trivial) (fun h=>?_)
   try simp only [bb_1,bz]at h
   unfold Ka
   refine W.if (fun h=>?_) (fun _=>W.rt trivial)
   try simp only [bb_1,bz]at h
   refine W.bd (BJ (Cq k_a0)) (fun r7 q_r7=>?_)
   replace q_r7:r7=true→0≤a0.Filter.Zone∧a0.Filter.Zone≤5∧0≤a0.Filter.Who∧a0.Filter.Who≤2∧0≤a0.Filter.Self∧a0.Filter.Self≤2∧0≤a0.Filter.Tap∧a0.Filter.Tap≤2∧0≤a0.Filter.Power.Kind∧a0.Filter.Power.Kind≤3∧0≤a0.Filter.Tough.Kind∧a0.Filter.Tough.Kind≤3∧0≤a0.Filter.Value.Kind∧a0.Filter.Value.Kind≤3∧a0.Filter.Sub.length≤32:=q_r7
   have:=AL (Av (Cq k_a0))
   exact W.rt trivial
 ·try simp only [bz]at h
  unfold SN
  try simp only [jn]
  refine W.lt fun b3 bb_3=>W.if (fun _=>W.rt trivial) (fun h=>?_)
  try simp only [bb_3,bz]at h
  refine W.bd (Ni) fun r8 q_r8=>W.if (fun h=>?_) (fun h=>?_)
  ·try simp only [bb_3,bz]at h
   refine W.lt fun b10 bb_4=>W.if (fun _=>W.rt trivial) (fun h=>?_)
   try simp only [bb_3,bb_4,bz]at h
   unfold Ka
   refine W.if (fun h=>?_) (fun _=>W.rt trivial)
   try simp only [bb_3,bb_4,bz]at h
   refine W.bd (BJ (Cq k_a0)) (fun r7 q_r7=>?_)
   replace q_r7:r7=true→0≤a0.Filter.Zone∧a0.Filter.Zone≤5∧0≤a0.Filter.Who∧a0.Filter.Who≤2∧0≤a0.Filter.Self∧a0.Filter.Self≤2∧0≤a0.Filter.Tap∧a0.Filter.Tap≤2∧0≤a0.Filter.Power.Kind∧a0.Filter.Power.Kind≤3∧0≤a0.Filter.Tough.Kind∧a0.Filter.Tough.Kind≤3∧0≤a0.Filter.Value.Kind∧a0.Filter.Value.Kind≤3∧a0.Filter.Sub.length≤32:=q_r7
   have:=AL (Av (Cq k_a0))
   exact W.rt trivial
  ·try simp only [bb_3,bz]at h
   refine W.if (fun _=>W.rt trivial) (fun h=>?_)
   try simp only [bb_3,bz]at h
   unfold Ka
   refine W.if (fun h=>?_) (fun _=>W.rt trivial)
   try simp only [bb_3,bz]at h
   refine W.bd (BJ (Cq k_a0)) (fun r7 q_r7=>?_)
   replace q_r7:r7=true→0≤a0.Filter.Zone∧a0.Filter.Zone≤5∧0≤a0.Filter.Who∧a0.Filter.Who≤2∧0≤a0.Filter.Self∧a0.Filter.Self≤2∧0≤a0.Filter.Tap∧a0.Filter.Tap≤2∧0≤a0.Filter.Power.Kind∧a0.Filter.Power.Kind≤3∧0≤a0.Filter.Tough.Kind∧a0.Filter.Tough.Kind≤3∧0≤a0.Filter.Value.Kind∧a0.Filter.Value.Kind≤3∧a0.Filter.Sub.length≤32:=q_r7
   have:=AL (Av (Cq k_a0))
   exact W.rt trivial
theorem RL {a0:B9} (k_a0:Hu a0):W (dC a0) (fun r=>True):=by
 unfold dC
 try simp only [jn]
 refine W.if (fun h=>?_) (fun h=>?_)
 ·try simp only [bz]at h
  refine W.lt fun b6 bb_1=>W.if (fun _=>W.rt trivial) (fun h=>?_)
  try simp only [bb_1,bz]at h
  unfold Kb
  refine W.lt fun b3 bb_2=>W.lt fun b4 bb_3=>W.rt trivial
 ·try simp only [bz]at h
  refine W.if (fun h=>?_) (fun h=>?_)
  ·try simp only [bz]at h
   refine W.lt fun b9 bb_4=>W.gb (fun _=>BJ (SY k_a0)) fun r10 _=>W.lt fun b11 bb_6=>W.if (fun _=>W.rt trivial) (fun h=>?_)
   try simp only [bb_4,bb_6,bz]at h
   unfold Kb
   refine W.lt fun b3 bb_7=>W.lt fun b4 bb_8=>W.rt trivial
  ·try simp only [bz]at h
   refine W.if (fun h=>?_) (fun h=>?_)
   ·try simp only [bz]at h
    refine W.bd (PH) fun r14 _=>W.if (fun _=>W.rt trivial) (fun h=>?_)
    try simp only [bz]at h
    unfold Kb
    refine W.lt fun b3 bb_9=>W.lt fun b4 bb_10=>W.rt trivial
   ·try simp only [bz]at h
    unfold Kb
    refine W.lt fun b3 bb_11=>W.lt fun b4 bb_12=>W.rt trivial
theorem AF {a0:Int} {a1:Aq} (k_a1:AZ a1):W (Lg a0 a1) (fun r=>True):=by
 unfold Lg
 try simp only [jn]
 refine W.if (fun h=>?_) (fun h=>?_)
 ·try simp only [bz]at h
  unfold Jw
  refine W.bd (BJ k_a1) (fun r3 q_r3=>?_)
  replace q_r3:r3=true→0≤a1.Zone∧a1.Zone≤5∧0≤a1.Who∧a1.Who≤2∧0≤a1.Self∧a1.Self≤2∧0≤a1.Tap∧a1.Tap≤2∧0≤a1.Power.Kind∧a1.Power.Kind≤3∧0≤a1.Tough.Kind∧a1.Tough.Kind≤3∧0≤a1.Value.Kind∧a1.Value.Kind≤3∧a1.Sub.length≤32:=q_r3
  have:=AL (Av k_a1)
  refine W.lt fun b4 bb_1=>W.rt trivial
 ·try simp only [bz]at h
  unfold Jw
  refine W.bd (BJ k_a1) (fun r3 q_r3=>?_)
  replace q_r3:r3=true→0≤a1.Zone∧a1.Zone≤5∧0≤a1.Who∧a1.Who≤2∧0≤a1.Self∧a1.Self≤2∧0≤a1.Tap∧a1.Tap≤2∧0≤a1.Power.Kind∧a1.Power.Kind≤3∧0≤a1.Tough.Kind∧a1.Tough.Kind≤3∧0≤a1.Value.Kind∧a1.Value.Kind≤3∧a1.Sub.length≤32:=q_r3
  have:=AL (Av k_a1)
  refine W.lt fun b4 bb_2=>W.rt trivial
theorem Zi {a0:Ao} (k_a0:Bj a0):W (I5 a0) (fun r=>True):=by
 unfold I5
 try simp only [jn]
 refine W.bd (CL) fun r1 _=>W.if (fun _=>W.rt trivial) (fun h=>?_)
 try simp only [bz]at h
 have:=AX (Bt k_a0)
 refine W.it (fun(v:Int)=>0≤v∧(v≤(a0.Players.length:Int)∨v≤0)) (fun v=>((a0.Players.length:Int) - v).toNat) (by omega) (by omega) (fun i_t3_8 hv=>?_)
 unfold LJ
 refine W.if (fun h=>?_) (fun h=>?_)
 ·try simp only [bz]at h
  refine W.bd (W.idx (by omega)) fun e12 q_e12=>W.bd (CL) fun r13 _=>W.gb (fun _=>CL) fun r14 _=>W.lt fun b15 bb_2=>W.gb (fun _=>CL) fun r16 _=>W.lt fun b17 bb_4=>W.gb (fun _=>iP) fun r18 _=>W.lt fun b19 bb_6=>W.if (fun _=>W.ex (W.rt trivial)) (fun h=>?_)
  try simp only [bb_2,bb_4,bb_6,bz]at h
  refine W.bd (Iv k_a0 (Ja (show Cs e12 from Bo (Bt k_a0) q_e12.1))) fun r21 _=>W.gb (fun _=>Iv k_a0 (Nc (show Cs e12 from Bo (Bt k_a0) q_e12.1))) fun r22 _=>W.lt fun b23 bb_8=>W.gb (fun _=>Iv k_a0 (GU (show Cs e12 from Bo (Bt k_a0) q_e12.1))) fun r24 _=>W.lt fun b25 bb_10=>W.if (fun _=>W.ex (W.rt trivial)) (fun h=>?_)
  try simp only [bb_2,bb_4,bb_6,bb_8,bb_10,bz]at h
  have ww_11:Ac (i_t3_8+(1:Int))=i_t3_8+(1:Int):=Af (by omega) (by omega)
  exact W.nx (by(try dsimp only);first | omega | (and_intros<;>first | omega | assumption) | (simp;omega)) (by(try dsimp only);omega)
 ·try simp only [bz]at h
  refine W.ex ?_
  try dsimp only [Sum.elim_inl,Sum.elim_inr]
  unfold MX
  refine W.bd (Iv k_a0 (GD k_a0)) fun r4 _=>W.gb (fun _=>Iv k_a0 (Nd k_a0)) fun r5 _=>W.lt fun b6 bb_13=>W.rt trivial
theorem RM {a0:AM} {a1:Ah} {a2:Int} {a3:Int} {a4:Aq} (k_a1:A8 a1) (k_a4:AZ a4):W (FN a0 a1 a2 a3 a4) (fun r=>True):=by
 unfold FN
 refine W.bd (BJ k_a4) (fun r1 q_r1=>?_)
 replace q_r1:r1=true→0≤a4.Zone∧a4.Zone≤5∧0≤a4.Who∧a4.Who≤2∧0≤a4.Self∧a4.Self≤2∧0≤a4.Tap∧a4.Tap≤2∧0≤a4.Power.Kind∧a4.Power.Kind≤3∧0≤a4.Tough.Kind∧a4.Tough.Kind≤3∧0≤a4.Value.Kind∧a4.Value.Kind≤3∧a4.Sub.length≤32:=q_r1
 have:=AL (Av k_a4)
 refine W.lt fun b2 bb_1=>W.gb (fun _=>pz) fun r3 _=>W.lt fun b4 bb_3=>W.gb (fun _=>mo) fun r5 _=>W.lt fun b6 bb_5=>W.gb (fun _=>pA) fun r7 _=>W.lt fun b8 bb_7=>W.if (fun _=>W.rt trivial) (fun h=>?_)
 try simp only [bb_1,bb_3,bb_5,bb_7,bz]at h
 refine W.gb (fun _=>Ez) fun r10 _=>W.lt fun b11 bb_9=>W.gb (fun _=>Ez) fun r12 _=>W.lt fun b13 bb_11=>W.if (fun _=>W.rt trivial) (fun h=>?_)
 try simp only [bb_1,bb_3,bb_5,bb_7,bb_9,bb_11,bz]at h
 refine W.gb (fun _=>Ez) fun r15 _=>W.lt fun b16 bb_13=>W.gb (fun _=>Ez) fun r17 _=>W.lt fun b18 bb_15=>W.if (fun _=>W.rt trivial) (fun h=>?_)
 try simp only [bb_1,bb_3,bb_5,bb_7,bb_9,bb_11,bb_13,bb_15,bz]at h
 refine W.gb (fun _=>RH (Ya k_a1)) fun r20 _=>W.lt fun b21 bb_17=>W.gb (fun _=>pB) fun r22 _=>W.lt fun b23 bb_19=>W.if (fun _=>W.rt trivial) (fun h=>?_)
 try simp only [bb_1,bb_3,bb_5,bb_7,bb_9,bb_11,bb_13,bb_15,bb_17,bb_19,bz]at h
 refine W.bd (eg) fun r25 _=>W.rt trivial
theorem Ym {a0:BH} (k_a0:CA a0):W (Rs a0) (fun r=>r.length≤140737488400000):=by
 unfold Rs
 refine W.bd (Yj k_a0) fun r1 _=>W.if (fun h=>?_) (fun h=>?_)
 ·try simp only [bz]at h
  refine W.rt ?_
  first | assumption | omega | (simp only [bz];omega) | (simp only [bz];intros;omega) | (intros;simp only [bz]at *;omega) | exact⟨by simp,by simp⟩ | decide | simp_all
 ·try simp only [bz]at h
  refine W.if (fun h=>?_) (fun h=>?_)
  ·try simp only [bz]at h
   refine W.rt ?_
   have ll_1:Uv.length=7:=rfl
   first | assumption | omega | (simp only [bz];omega) | (simp only [bz];intros;omega) | (intros;simp only [bz]at *;omega) | exact⟨by simp,by simp⟩ | decide | simp_all
  ·try simp only [bz]at h
   refine W.if (fun h=>?_) (fun h=>?_)
   ·try simp only [bz]at h
    refine W.bd (GR) (fun r5 q_r5=>?_)
    replace q_r5:r5.length≤500:=q_r5
    have ll_2:Pr.length=6:=rfl
    refine W.bd (W.cat (by first | omega | (simp;omega))) (fun s6 q_s6=>?_)
    replace q_s6:s6.length=(Pr).length +(r5).length :=q_s6.2
    refine W.rt ?_
    first | assumption | omega | (simp only [bz];omega) | (simp only [bz];intros;omega) | (intros;simp only [bz]at *;omega) | exact⟨by simp,by simp⟩ | decide | simp_all
   ·try simp only [bz]at h
    refine W.if (fun h=>?_) (fun h=>?_)
    ·try simp only [bz]at h
     refine W.bd (GR) (fun r8 q_r8=>?_)
     replace q_r8:r8.length≤500:=q_r8
     have ll_3:Ms.length=7:=rfl
     refine W.bd (W.cat (by first | omega | (simp;omega))) (fun s9 q_s9=>?_)
     replace q_s9:s9.length=(Ms).length +(r8).length :=q_s9.2
     refine W.rt ?_
     first | assumption | omega | (simp only [bz];omega) | (simp only [bz];intros;omega) | (intros;simp only [bz]at *;omega) | exact⟨by simp,by simp⟩ | decide | simp_all
    ·try simp only [bz]at h
     refine W.if (fun h=>?_) (fun h=>?_)
     ·try simp only [bz]at h
      have:=AL (CR k_a0)
      have ll_4:Xf.length=4:=rfl
      refine W.bd (W.cat (by first | omega | (simp;omega))) (fun s11 q_s11=>?_)
      replace q_s11:s11.length=(Xf).length +(a0.Sub).length :=q_s11.2
      refine W.rt ?_
      first | assumption | omega | (simp only [bz];omega) | (simp only [bz];intros;omega) | (intros;simp only [bz]at *;omega) | exact⟨by simp,by simp⟩ | decide | simp_all
     ·try simp only [bz]at h
      refine W.if (fun h=>?_) (fun h=>?_)
      ·try simp only [bz]at h
       have:=AL (CR k_a0)
       have ll_5:SA.length=5:=rfl
       refine W.bd (W.cat (by first | omega | (simp;omega))) (fun s13 q_s13=>?_)
       replace q_s13:s13.length=(SA).length +(a0.Sub).length :=q_s13.2
       refine W.rt ?_
       first | assumption | omega | (simp only [bz];omega) | (simp only [bz];intros;omega) | (intros;simp only [bz]at *;omega) | exact⟨by simp,by simp⟩ | decide | simp_all
      ·try simp only [bz]at h
       refine W.if (fun h=>?_) (fun h=>?_)
       ·try simp only [bz]at h
        refine W.bd (Yg) (fun r15 q_r15=>?_)
        replace q_r15:r15.length≤150:=q_r15
        have ll_6:Mt.length=7:=rfl
        refine W.bd (W.cat (by first | omega | (simp;omega))) (fun s16 q_s16=>?_)
        replace q_s16:s16.length=(Mt).length +(r15).length :=q_s16.2
        refine W.rt ?_
        first | assumption | omega | (simp only [bz];omega) | (simp only [bz];intros;omega) | (intros;simp only [bz]at *;omega) | exact⟨by simp,by simp⟩ | decide | simp_all
       ·try simp only [bz]at h
        refine W.if (fun h=>?_) (fun h=>?_)
        ·try simp only [bz]at h
         refine W.bd (Yg) (fun r18 q_r18=>?_)
         replace q_r18:r18.length≤150:=q_r18
         have ll_7:KG.length=8:=rfl
         refine W.bd (W.cat (by first | omega | (simp;omega))) (fun s19 q_s19=>?_)
         replace q_s19:s19.length=(KG).length +(r18).length :=q_s19.2
         refine W.rt ?_
         first | assumption | omega | (simp only [bz];omega) | (simp only [bz];intros;omega) | (intros;simp only [bz]at *;omega) | exact⟨by simp,by simp⟩ | decide | simp_all
        ·try simp only [bz]at h
         refine W.if (fun h=>?_) (fun h=>?_)
         ·try simp only [bz]at h
          refine W.bd (Yh) (fun r21 q_r21=>?_)
          replace q_r21:r21.length≤1000:=q_r21
          have ll_8:Ps.length=6:=rfl
          refine W.bd (W.cat (by first | omega | (simp;omega))) (fun s22 q_s22=>?_)
          replace q_s22:s22.length=(Ps).length +(r21).length :=q_s22.2
          refine W.rt ?_
          first | assumption | omega | (simp only [bz];omega) | (simp only [bz];intros;omega) | (intros;simp only [bz]at *;omega) | exact⟨by simp,by simp⟩ | decide | simp_all
         ·try simp only [bz]at h
          refine W.if (fun h=>?_) (fun h=>?_)
          ·try simp only [bz]at h
           refine W.bd (Yh) (fun r24 q_r24=>?_)
           replace q_r24:r24.length≤1000:=q_r24
           have ll_9:EY.length=6:=rfl
           refine W.bd (W.cat (by first | omega | (simp;omega))) (fun s25 q_s25=>?_)
           replace q_s25:s25.length=(EY).length +(r24).length :=q_s25.2
           refine W.rt ?_
           first | assumption | omega | (simp only [bz];omega) | (simp only [bz];intros;omega) | (intros;simp only [bz]at *;omega) | exact⟨by simp,by simp⟩ | decide | simp_all
          ·try simp only [bz]at h
           refine W.if (fun h=>?_) (fun h=>?_)
           ·try simp only [bz]at h
            refine W.rt ?_
            have ll_10:aO.length=5:=rfl
            first | assumption | omega | (simp only [bz];omega) | (simp only [bz];intros;omega) | (intros;simp only [bz]at *;omega) | exact⟨by simp,by simp⟩ | decide | simp_all
           ·try simp only [bz]at h
            refine W.if (fun h=>?_) (fun h=>?_)
            ·try simp only [bz]at h
             refine W.bd (mw (Ba k_a0)) (fun r28 q_r28=>?_)
             replace q_r28:r28.length≤31000:=q_r28
             have ll_11:Jj.length=9:=rfl
             refine W.bd (W.cat (by first | omega | (simp;omega))) (fun s29 q_s29=>?_)
             replace q_s29:s29.length=(Jj).length +(r28).length :=q_s29.2
             have ll_12:cG.length=1:=rfl
             refine W.bd (W.cat (by first | omega | (simp;omega))) (fun s30 q_s30=>?_)
             replace q_s30:s30.length=(s29).length +(cG).length :=q_s30.2
             refine W.rt ?_
             first | assumption | omega | (simp only [bz];omega) | (simp only [bz];intros;omega) | (intros;simp only [bz]at *;omega) | exact⟨by simp,by simp⟩ | decide | simp_all
            ·try simp only [bz]at h
             refine W.if (fun h=>?_) (fun h=>?_)
             ·try simp only [bz]at h
              refine W.bd (FT) (fun r32 q_r32=>?_)
              replace q_r32:r32.length≤21:=q_r32
              have ll_13:cH.length=3:=rfl
              refine W.bd (W.cat (by first | omega | (simp;omega))) (fun s33 q_s33=>?_)
              replace q_s33:s33.length=(cH).length +(r32).length :=q_s33.2
              have ll_14:NM.length=1:=rfl
              refine W.bd (W.cat (by first | omega | (simp;omega))) (fun s34 q_s34=>?_)
              replace q_s34:s34.length=(s33).length +(NM).length :=q_s34.2
              refine W.bd (FT) (fun r35 q_r35=>?_)
              replace q_r35:r35.length≤21:=q_r35
              refine W.bd (W.cat (by first | omega | (simp;omega))) (fun s36 q_s36=>?_)
              replace q_s36:s36.length=(s34).length +(r35).length :=q_s36.2
              refine W.rt ?_
              first | assumption | omega | (simp only [bz];omega) | (simp only [bz];intros;omega) | (intros;simp only [bz]at *;omega) | exact⟨by simp,by simp⟩ | decide | simp_all
             ·try simp only [bz]at h
              refine W.if (fun h=>?_) (fun h=>?_)
              ·try simp only [bz]at h
               refine W.bd (FT) (fun r38 q_r38=>?_)
               replace q_r38:r38.length≤21:=q_r38
               have ll_15:Xo.length=4:=rfl
               refine W.bd (W.cat (by first | omega | (simp;omega))) (fun s39 q_s39=>?_)
               replace q_s39:s39.length=(Xo).length +(r38).length :=q_s39.2
               have ll_16:NM.length=1:=rfl
               refine W.bd (W.cat (by first | omega | (simp;omega))) (fun s40 q_s40=>?_)
               replace q_s40:s40.length=(s39).length +(NM).length :=q_s40.2
               refine W.bd (FT) (fun r41 q_r41=>?_)
               replace q_r41:r41.length≤21:=q_r41
               refine W.bd (W.cat (by first | omega | (simp;omega))) (fun s42 q_s42=>?_)
               replace q_s42:s42.length=(s40).length +(r41).length :=q_s42.2
               refine W.rt ?_
               first | assumption | omega | (simp only [bz];omega) | (simp only [bz];intros;omega) | (intros;simp only [bz]at *;omega) | exact⟨by simp,by simp⟩ | decide | simp_all
              ·try simp only [bz]at h
               refine W.rt ?_
               have ll_17:Ou.length=9:=rfl
               first | assumption | omega | (simp only [bz];omega) | (simp only [bz];intros;omega) | (intros;simp only [bz]at *;omega) | exact⟨by simp,by simp⟩ | decide | simp_all
theorem iX {a0:BA} (k_a0:EI a0):W (N2 a0) (fun r=>True):=by
 unfold N2
 refine W.gb (fun _=>Nu (Fn k_a0)) fun r1 _=>W.lt fun b2 bb_2=>W.if (fun _=>W.rt trivial) (fun h=>?_)
 try simp only [bb_2,bz]at h
 refine W.if (fun h=>?_) (fun h=>?_)
 ·try simp only [bb_2,bz]at h
  refine W.lt fun b5 bb_3=>W.lt fun b6 bb_4=>W.lt fun b7 bb_5=>W.lt fun b8 bb_6=>W.rt trivial
 ·try simp only [bb_2,bz]at h
  refine W.if (fun h=>?_) (fun h=>?_)
  ·try simp only [bb_2,bz]at h
   refine W.lt fun b10 bb_7=>W.lt fun b11 bb_8=>W.rt trivial
  ·try simp only [bb_2,bz]at h
   refine W.if (fun h=>?_) (fun _=>W.rt trivial)
   try simp only [bb_2,bz]at h
   refine W.lt fun b13 bb_9=>W.lt fun b14 bb_10=>W.lt fun b15 bb_11=>W.lt fun b16 bb_12=>W.rt trivial
theorem Bu {a0:List (DB)} (k_a0:B3 144 I9 a0):W (N3 a0) (fun r=>True):=by
 unfold N3
 try simp only [jn]
 have:=AX k_a0
 refine W.it (fun(v:Int)=>0≤v∧(v≤(a0.length:Int)∨v≤0)) (fun v=>((a0.length:Int) - v).toNat) (by omega) (by omega) (fun i_t3_3 hv=>?_)
 unfold Rt
 refine W.if (fun h=>?_) (fun _=>W.ex (W.rt trivial))
 try simp only [bz]at h
 refine W.bd (W.idx (by omega)) fun e7 q_e7=>W.bd (my (show I9 e7 from Bo k_a0 q_e7.1)) fun r8 _=>W.if (fun _=>W.ex (W.rt trivial)) (fun h=>?_)
 try simp only [bz]at h
 have ww_1:Ac (i_t3_3+(1:Int))=i_t3_3+(1:Int):=Af (by omega) (by omega)
 exact W.nx (by(try dsimp only);first | omega | (and_intros<;>first | omega | assumption) | (simp;omega)) (by(try dsimp only);omega)
theorem Iw {a0:List (BH)} (k_a0:B3 176 CA a0):W (Ec a0) (fun r=>True):=by
 unfold Ec
 try simp only [jn]
 refine W.lt fun b1 bb_1=>W.if (fun _=>W.rt trivial) (fun h=>?_)
 try simp only [bb_1,bz]at h
 have:=AX k_a0
 refine W.it (fun(v:(List UInt8)×Int)=>0≤v.2∧(v.2≤a0.length∨v.2≤0)∧(v.1.length:Int)≤140737488410000*v.2) (fun v=>((a0.length:Int) - v.2).toNat) ?_ ?_ (fun v hv=>?_)
 ·(try dsimp only);first | omega | (simp;omega) | (and_intros<;>first | omega | assumption | (simp;omega) | simp)
 ·(try dsimp only);first | omega | (simp;omega) | (and_intros<;>first | omega | assumption | (simp;omega) | simp)
 ·obtain⟨out_t3_7,i_t4_8⟩:=v
  replace hv:0≤i_t4_8∧(i_t4_8≤a0.length∨i_t4_8≤0)∧(out_t3_7.length:Int)≤140737488410000*i_t4_8:=hv
  show W (FP a0 out_t3_7 i_t4_8) _
  unfold FP
  try simp only [jn]
  refine W.if (fun h=>?_) (fun _=>W.ex (W.rt trivial))
  try simp only [bb_1,bz]at h
  refine W.bd (W.idx (by omega)) fun e13 q_e13=>W.bd (Yj (show CA e13 from Bo k_a0 q_e13.1)) fun r14 _=>W.if (fun _=>W.ex (W.rt trivial)) (fun h=>?_)
  try simp only [bb_1,bz]at h
  refine W.if (fun h=>?_) (fun h=>?_)
  ·try simp only [bb_1,bz]at h
   have ll_2:Sz.length=2:=rfl
   refine W.bd (W.cat (by first | omega | (simp;omega))) (fun s22 q_s22=>?_)
   replace q_s22:s22.length=(out_t3_7).length +(Sz).length :=q_s22.2
   unfold FO
   refine W.re q_e13.2.2 ?_
   refine W.bd (Ym (show CA e13 from Bo k_a0 q_e13.1)) (fun r19 q_r19=>?_)
   replace q_r19:r19.length≤140737488400000:=q_r19
   refine W.bd (W.cat (by first | omega | (simp;omega))) (fun s20 q_s20=>?_)
   replace q_s20:s20.length=(s22).length +(r19).length :=q_s20.2
   have ww_3:Ac (i_t4_8+(1:Int))=i_t4_8+(1:Int):=Af (by omega) (by omega)
   exact W.nx (by(try dsimp only);first | omega | (and_intros<;>first | omega | assumption) | (simp;omega)) (by(try dsimp only);omega)
  ·try simp only [bb_1,bz]at h
   unfold FO
   refine W.re q_e13.2.2 ?_
   refine W.bd (Ym (show CA e13 from Bo k_a0 q_e13.1)) (fun r19 q_r19=>?_)
   replace q_r19:r19.length≤140737488400000:=q_r19
   refine W.bd (W.cat (by first | omega | (simp;omega))) (fun s20 q_s20=>?_)
   replace q_s20:s20.length=(out_t3_7).length +(r19).length :=q_s20.2
   have ww_4:Ac (i_t4_8+(1:Int))=i_t4_8+(1:Int):=Af (by omega) (by omega)
   exact W.nx (by(try dsimp only);first | omega | (and_intros<;>first | omega | assumption) | (simp;omega)) (by(try dsimp only);omega)
theorem GE {a0:BA} (k_a0:EI a0):W (dN a0) (fun r=>True):=by
 unfold dN
 try simp only [jn]
 refine W.if (fun h=>?_) (fun h=>?_)
 ·try simp only [bz]at h
  refine W.bd (iX k_a0) fun r2 _=>W.rt trivial
 ·try simp only [bz]at h
  refine W.bd (iN) fun r3 _=>W.if (fun _=>W.rt trivial) (fun h=>?_)
  try simp only [bz]at h
  refine W.lt fun b5 bb_1=>W.lt fun b6 bb_2=>W.if (fun h=>?_) (fun h=>?_)
  ·try simp only [bb_1,bb_2,bz]at h
   refine W.lt fun b8 bb_3=>W.lt fun b9 bb_4=>W.lt fun b10 bb_5=>W.if (fun _=>W.rt trivial) (fun h=>?_)
   try simp only [bb_1,bb_2,bb_3,bb_4,bb_5,bz]at h
   refine W.gb (fun _=>Nu (Fn k_a0)) fun r12 _=>W.lt fun b13 bb_7=>W.lt fun b14 bb_8=>W.lt fun b15 bb_9=>W.lt fun b16 bb_10=>W.rt trivial
  ·try simp only [bb_1,bb_2,bz]at h
   refine W.if (fun h=>?_) (fun h=>?_)
   ·try simp only [bb_1,bb_2,bz]at h
    refine W.lt fun b18 bb_11=>W.gb (fun _=>Nu (Fn k_a0)) fun r19 _=>W.lt fun b20 bb_13=>W.rt trivial
   ·try simp only [bb_1,bb_2,bz]at h
    refine W.if (fun h=>?_) (fun h=>?_)
    ·try simp only [bb_1,bb_2,bz]at h
     refine W.lt fun b22 bb_14=>W.lt fun b23 bb_15=>W.lt fun b24 bb_16=>W.lt fun b25 bb_17=>W.rt trivial
    ·try simp only [bb_1,bb_2,bz]at h
     refine W.if (fun h=>?_) (fun h=>?_)
     ·try simp only [bb_1,bb_2,bz]at h
      unfold Lh
      refine W.if (fun h=>?_) (fun _=>W.rt trivial)
      try simp only [bb_1,bb_2,bz]at h
      refine W.lt fun b29 bb_18=>W.lt fun b30 bb_19=>W.lt fun b31 bb_20=>W.rt trivial
     ·try simp only [bb_1,bb_2,bz]at h
      refine W.if (fun h=>?_) (fun h=>?_)
      ·try simp only [bb_1,bb_2,bz]at h
       unfold Lh
       refine W.if (fun h=>?_) (fun _=>W.rt trivial)
       try simp only [bb_1,bb_2,bz]at h
       refine W.lt fun b29 bb_21=>W.lt fun b30 bb_22=>W.lt fun b31 bb_23=>W.rt trivial
      ·try simp only [bb_1,bb_2,bz]at h
       unfold Lh
       refine W.if (fun h=>?_) (fun _=>W.rt trivial)
       try simp only [bb_1,bb_2,bz]at h
       refine W.lt fun b29 bb_24=>W.lt fun b30 bb_25=>W.lt fun b31 bb_26=>W.rt trivial
theorem D7 {a0:List (BH)} (k_a0:B3 176 CA a0):W (Rv a0) (fun r=>True):=by
 unfold Rv
 refine W.bd (Iw k_a0) fun r1 _=>W.rt trivial
end Go.PL
