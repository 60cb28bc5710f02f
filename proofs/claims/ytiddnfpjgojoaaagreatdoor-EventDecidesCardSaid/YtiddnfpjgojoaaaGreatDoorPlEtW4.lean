/- Functions that answer: proofs. -/
import Derived.Test.YtiddnfpjgojoaaaGreatDoorPlEdB
import Derived.Test.YtiddnfpjgojoaaaGreatDoorPlEdF10
import Derived.Test.YtiddnfpjgojoaaaGreatDoorPlEdF11
import Derived.Test.YtiddnfpjgojoaaaGreatDoorPlEdF12
import Derived.Test.YtiddnfpjgojoaaaGreatDoorPlEdF14
import Derived.Test.YtiddnfpjgojoaaaGreatDoorPlEdF15
import Derived.Test.YtiddnfpjgojoaaaGreatDoorPlEtL
import Derived.Test.YtiddnfpjgojoaaaGreatDoorPlEtW0
import Derived.Test.YtiddnfpjgojoaaaGreatDoorPlEtW1
import Derived.Test.YtiddnfpjgojoaaaGreatDoorPlEtW2
import Derived.Test.YtiddnfpjgojoaaaGreatDoorPlEtW3
namespace Go.PL
open Go
set_option maxRecDepth 100000
set_option linter.all false
set_option maxHeartbeats 2000000
theorem NE {a0:Ar} {r5:List (List UInt8)} {r6:List (List UInt8)} {l7_11:List (List UInt8)} (k_a0:AZ a0) (k_r5:B5 16 Fx r5) (k_r6:B5 16 Fx r6) (k_l7_11:B5 16 Fx l7_11) (p_0:0≤a0.Zone∧a0.Zone≤5∧0≤a0.Who∧a0.Who≤2∧0≤a0.Self∧a0.Self≤2∧0≤a0.Tap∧a0.Tap≤2∧0≤a0.Power.Kind∧a0.Power.Kind≤3∧0≤a0.Tough.Kind∧a0.Tough.Kind≤3∧0≤a0.Value.Kind∧a0.Value.Kind≤3∧a0.Sub.length≤32) (p_1:l7_11.length≤2) (p_2: ∀ y∈l7_11,y.length≤600) (p_3:r5.length=3) (p_4: ∀ y∈r5,y.length≤40) (p_5:r6.length=3) (p_6: ∀ y∈r6,y.length≤40):W (Lt a0 r5 r6 l7_11) (fun r=>r.length≤31000):=by
 unfold Lt
 try simp only [jn]
 have:=AY k_r5
 refine W.bd (W.idx (by omega)) (fun e13 q_e13=>?_)
 have ll_1:=p_4 e13 q_e13.1
 refine W.if (fun h=>?_) (fun h=>?_)
 ·try simp only [bz]at h
  have:=AN (Ax k_a0)
  have:=AY k_l7_11
  have:=AY k_r6
  exact ND k_a0 k_r6 (by first | assumption | omega | exact Ae _ | (simp;done) | (simp;omega)) (by first | assumption | omega | exact Ae _ | (simp;done) | (simp;omega)) (by first | assumption | omega | exact Ae _ | (simp;done) | (simp;omega)) (by first | assumption | omega | exact Ae _ | (simp;done) | (simp;omega)) (by first | assumption | omega | exact Ae _ | (simp;done) | (simp;omega))
 ·try simp only [bz]at h
  have:=AY k_l7_11
  have ll_3:([e13]:List (List UInt8)).length =1:=rfl
  refine W.bd (W.app (by first | omega | (simp;omega)) (by unfold maxLen;first | omega | (simp;omega))) (fun l127 q_l127=>?_)
  have ll_4:l127.length=(l7_11).length +([e13]:List (List UInt8)).length :=by rw [q_l127,List.length_append]
  have aa_5: ∀ y∈l127,y.length≤600:=by rw [q_l127];exact Eb p_2 (Ec (by omega))
  have:=AN (Ax k_a0)
  have:=AY k_r6
  exact ND k_a0 k_r6 (by first | assumption | omega | exact Ae _ | (simp;done) | (simp;omega)) (by first | assumption | omega | exact Ae _ | (simp;done) | (simp;omega)) (by first | assumption | omega | exact Ae _ | (simp;done) | (simp;omega)) (by first | assumption | omega | exact Ae _ | (simp;done) | (simp;omega)) (by first | assumption | omega | exact Ae _ | (simp;done) | (simp;omega))
theorem OX {a0:Ar} {r4:List (List UInt8)} {r5:List (List UInt8)} {r6:List (List UInt8)} {l7_8:List (List UInt8)} (k_a0:AZ a0) (k_r4:B5 16 Fx r4) (k_r5:B5 16 Fx r5) (k_r6:B5 16 Fx r6) (k_l7_8:B5 16 Fx l7_8) (p_0:0≤a0.Zone∧a0.Zone≤5∧0≤a0.Who∧a0.Who≤2∧0≤a0.Self∧a0.Self≤2∧0≤a0.Tap∧a0.Tap≤2∧0≤a0.Power.Kind∧a0.Power.Kind≤3∧0≤a0.Tough.Kind∧a0.Tough.Kind≤3∧0≤a0.Value.Kind∧a0.Value.Kind≤3∧a0.Sub.length≤32) (p_1:l7_8.length≤1) (p_2: ∀ y∈l7_8,y.length≤600) (p_3:r4.length=3) (p_4: ∀ y∈r4,y.length≤40) (p_5:r5.length=3) (p_6: ∀ y∈r5,y.length≤40) (p_7:r6.length=3) (p_8: ∀ y∈r6,y.length≤40):W (M6 a0 r4 r5 r6 l7_8) (fun r=>r.length≤31000):=by
 unfold M6
 try simp only [jn]
 have:=AY k_r4
 refine W.bd (W.idx (by omega)) (fun e10 q_e10=>?_)
 have ll_1:=p_4 e10 q_e10.1
 refine W.if (fun h=>?_) (fun h=>?_)
 ·try simp only [bz]at h
  have:=AN (Ax k_a0)
  have:=AY k_l7_8
  have:=AY k_r5
  have:=AY k_r6
  exact NE k_a0 k_r5 k_r6 k_l7_8 (by first | assumption | omega | exact Ae _ | (simp;done) | (simp;omega)) (by first | assumption | omega | exact Ae _ | (simp;done) | (simp;omega)) (by first | assumption | omega | exact Ae _ | (simp;done) | (simp;omega)) (by first | assumption | omega | exact Ae _ | (simp;done) | (simp;omega)) (by first | assumption | omega | exact Ae _ | (simp;done) | (simp;omega)) (by first | assumption | omega | exact Ae _ | (simp;done) | (simp;omega)) (by first | assumption | omega | exact Ae _ | (simp;done) | (simp;omega))
 ·try simp only [bz]at h
  have:=AY k_l7_8
  have ll_3:([e10]:List (List UInt8)).length =1:=rfl
  refine W.bd (W.app (by first | omega | (simp;omega)) (by unfold maxLen;first | omega | (simp;omega))) (fun l129 q_l129=>?_)
  have ll_4:l129.length=(l7_8).length +([e10]:List (List UInt8)).length :=by rw [q_l129,List.length_append]
  have aa_5: ∀ y∈l129,y.length≤600:=by rw [q_l129];exact Eb p_2 (Ec (by omega))
  have:=AN (Ax k_a0)
  have:=AY k_r5
  have:=AY k_r6
  exact NE k_a0 k_r5 k_r6 (BT (by assumption) (by omega) (by omega)) (by first | assumption | omega | exact Ae _ | (simp;done) | (simp;omega)) (by first | assumption | omega | exact Ae _ | (simp;done) | (simp;omega)) (by first | assumption | omega | exact Ae _ | (simp;done) | (simp;omega)) (by first | assumption | omega | exact Ae _ | (simp;done) | (simp;omega)) (by first | assumption | omega | exact Ae _ | (simp;done) | (simp;omega)) (by first | assumption | omega | exact Ae _ | (simp;done) | (simp;omega)) (by first | assumption | omega | exact Ae _ | (simp;done) | (simp;omega))
theorem mL {a0:Ar} (k_a0:AZ a0):W (Rs a0) (fun r=>r.length≤31000):=by
 unfold Rs
 try simp only [jn]
 refine W.bd (BK k_a0) (fun r1 q_r1=>?_)
 replace q_r1:r1=true→0≤a0.Zone∧a0.Zone≤5∧0≤a0.Who∧a0.Who≤2∧0≤a0.Self∧a0.Self≤2∧0≤a0.Tap∧a0.Tap≤2∧0≤a0.Power.Kind∧a0.Power.Kind≤3∧0≤a0.Tough.Kind∧a0.Tough.Kind≤3∧0≤a0.Value.Kind∧a0.Value.Kind≤3∧a0.Sub.length≤32:=q_r1
 have:=AN (Ax k_a0)
 refine W.if (fun h=>?_) (fun h=>?_)
 ·try simp only [bz]at h
  refine W.rt ?_
  first | omega | decide
 ·try simp only [bz]at h
  have qq_1:=q_r1 h
  refine W.bd (Vn) (fun r3 q_r3=>?_)
  replace q_r3:r3.length=6∧ ∀ y∈r3,y.length≤40:=q_r3
  obtain⟨_,q_r3_2⟩:=q_r3
  refine W.bd (Ys) (fun r4 q_r4=>?_)
  replace q_r4:r4.length=3∧ ∀ y∈r4,y.length≤40:=q_r4
  obtain⟨_,_⟩:=q_r4
  refine W.bd (Vo) (fun r5 q_r5=>?_)
  replace q_r5:r5.length=3∧ ∀ y∈r5,y.length≤40:=q_r5
  obtain⟨_,_⟩:=q_r5
  refine W.bd (Yt) (fun r6 q_r6=>?_)
  replace q_r6:r6.length=3∧ ∀ y∈r6,y.length≤40:=q_r6
  obtain⟨_,_⟩:=q_r6
  refine W.bd (W.idx (by omega)) (fun e7 q_e7=>?_)
  have ll_2:=q_r3_2 e7 q_e7.1
  refine W.if (fun h=>?_) (fun h=>?_)
  ·try simp only [bz]at h
   exact OX k_a0 (BT (by assumption) (by omega) (by omega)) (BT (by assumption) (by omega) (by omega)) (BT (by assumption) (by omega) (by omega)) G6 (by first | assumption | omega | exact Ae _ | (simp;done) | (simp;omega)) (by first | assumption | omega | exact Ae _ | (simp;done) | (simp;omega)) (by first | assumption | omega | exact Ae _ | (simp;done) | (simp;omega)) (by first | assumption | omega | exact Ae _ | (simp;done) | (simp;omega)) (by first | assumption | omega | exact Ae _ | (simp;done) | (simp;omega)) (by first | assumption | omega | exact Ae _ | (simp;done) | (simp;omega)) (by first | assumption | omega | exact Ae _ | (simp;done) | (simp;omega)) (by first | assumption | omega | exact Ae _ | (simp;done) | (simp;omega)) (by first | assumption | omega | exact Ae _ | (simp;done) | (simp;omega))
  ·try simp only [bz]at h
   have ll_4:([]:List (List UInt8)).length =0:=rfl
   have ll_5:([e7]:List (List UInt8)).length =1:=rfl
   refine W.bd (W.app (by first | omega | (simp;omega)) (by unfold maxLen;first | omega | (simp;omega))) (fun l131 q_l131=>?_)
   have ll_6:l131.length=([]:List (List UInt8)).length +([e7]:List (List UInt8)).length :=by rw [q_l131,List.length_append]
   have aa_7: ∀ y∈l131,y.length≤600:=by rw [q_l131];exact Eb (fun y hy=>absurd hy (by simp)) (Ec (by omega))
   exact OX k_a0 (BT (by assumption) (by omega) (by omega)) (BT (by assumption) (by omega) (by omega)) (BT (by assumption) (by omega) (by omega)) (BT (by assumption) (by omega) (by omega)) (by first | assumption | omega | exact Ae _ | (simp;done) | (simp;omega)) (by first | assumption | omega | exact Ae _ | (simp;done) | (simp;omega)) (by first | assumption | omega | exact Ae _ | (simp;done) | (simp;omega)) (by first | assumption | omega | exact Ae _ | (simp;done) | (simp;omega)) (by first | assumption | omega | exact Ae _ | (simp;done) | (simp;omega)) (by first | assumption | omega | exact Ae _ | (simp;done) | (simp;omega)) (by first | assumption | omega | exact Ae _ | (simp;done) | (simp;omega)) (by first | assumption | omega | exact Ae _ | (simp;done) | (simp;omega)) (by first | assumption | omega | exact Ae _ | (simp;done) | (simp;omega))
theorem RP {a0:B1} (k_a0:FX a0):W (dR a0) (fun r=>True):=by
 unfold dR
 try simp only [jn]
 refine W.bd (Yu) fun r1 _=>W.lt fun b2 bb_1=>W.lt fun b3 bb_2=>W.gb (fun _=>RL) fun r4 _=>W.lt fun b5 bb_4=>W.if (fun _=>W.rt trivial) (fun h=>?_)
 try simp only [bb_1,bb_2,bb_4,bz]at h
 refine W.bd (Vp) fun r7 _=>W.if (fun _=>W.rt trivial) (fun h=>?_)
 try simp only [bb_1,bb_2,bb_4,bz]at h
 refine W.if (fun h=>?_) (fun h=>?_)
 ·try simp only [bb_1,bb_2,bb_4,bz]at h
  unfold PD
  refine W.bd (BK (DH k_a0)) (fun r11 q_r11=>?_)
  replace q_r11:r11=true→0≤a0.Filter.Zone∧a0.Filter.Zone≤5∧0≤a0.Filter.Who∧a0.Filter.Who≤2∧0≤a0.Filter.Self∧a0.Filter.Self≤2∧0≤a0.Filter.Tap∧a0.Filter.Tap≤2∧0≤a0.Filter.Power.Kind∧a0.Filter.Power.Kind≤3∧0≤a0.Filter.Tough.Kind∧a0.Filter.Tough.Kind≤3∧0≤a0.Filter.Value.Kind∧a0.Filter.Value.Kind≤3∧a0.Filter.Sub.length≤32:=q_r11
  have:=AN (Ax (DH k_a0))
  refine W.lt fun b12 bb_5=>W.rt trivial
 ·try simp only [bb_1,bb_2,bb_4,bz]at h
  unfold PD
  refine W.bd (BK (DH k_a0)) (fun r11 q_r11=>?_)
  replace q_r11:r11=true→0≤a0.Filter.Zone∧a0.Filter.Zone≤5∧0≤a0.Filter.Who∧a0.Filter.Who≤2∧0≤a0.Filter.Self∧a0.Filter.Self≤2∧0≤a0.Filter.Tap∧a0.Filter.Tap≤2∧0≤a0.Filter.Power.Kind∧a0.Filter.Power.Kind≤3∧0≤a0.Filter.Tough.Kind∧a0.Filter.Tough.Kind≤3∧0≤a0.Filter.Value.Kind∧a0.Filter.Value.Kind≤3∧a0.Filter.Sub.length≤32:=q_r11
  have:=AN (Ax (DH k_a0))
  refine W.lt fun b12 bb_6=>W.rt trivial
theorem NF {a0:Ar} (k_a0:AZ a0):W (Hw a0) (fun r=>True):=by
 unfold Hw
 refine W.bd (BK k_a0) (fun r1 q_r1=>?_)
 replace q_r1:r1=true→0≤a0.Zone∧a0.Zone≤5∧0≤a0.Who∧a0.Who≤2∧0≤a0.Self∧a0.Self≤2∧0≤a0.Tap∧a0.Tap≤2∧0≤a0.Power.Kind∧a0.Power.Kind≤3∧0≤a0.Tough.Kind∧a0.Tough.Kind≤3∧0≤a0.Value.Kind∧a0.Value.Kind≤3∧a0.Sub.length≤32:=q_r1
 have:=AN (Ax k_a0)
 refine W.lt fun b2 bb_1=>W.rt trivial
theorem mM {a0:DF} (k_a0:Jh a0):W (Rt a0) (fun r=>True):=by
 unfold Rt
 refine W.if (fun h=>?_) (fun h=>?_)
 ·try simp only [bz]at h
  refine W.lt fun b2 bb_1=>W.rt trivial
 ·try simp only [bz]at h
  refine W.bd (BK (Nm k_a0)) (fun r3 q_r3=>?_)
  replace q_r3:r3=true→0≤a0.Filter.Zone∧a0.Filter.Zone≤5∧0≤a0.Filter.Who∧a0.Filter.Who≤2∧0≤a0.Filter.Self∧a0.Filter.Self≤2∧0≤a0.Filter.Tap∧a0.Filter.Tap≤2∧0≤a0.Filter.Power.Kind∧a0.Filter.Power.Kind≤3∧0≤a0.Filter.Tough.Kind∧a0.Filter.Tough.Kind≤3∧0≤a0.Filter.Value.Kind∧a0.Filter.Value.Kind≤3∧a0.Filter.Sub.length≤32:=q_r3
  have:=AN (Ax (Nm k_a0))
  refine W.lt fun b4 bb_2=>W.lt fun b5 bb_3=>W.lt fun b6 bb_4=>W.rt trivial
theorem sN {a0:KQ} {a1:Int} (k_a0:S4 a0):W (dT a0 a1) (fun r=>True):=by
 unfold dT
 try simp only [jn]
 refine W.if (fun h=>?_) (fun h=>?_)
 ·try simp only [bz]at h
  unfold SU
  try simp only [jn]
  refine W.lt fun b3 bb_1=>W.if (fun _=>W.rt trivial) (fun h=>?_)
  try simp only [bb_1,bz]at h
  refine W.bd (Ns) fun r8 q_r8=>W.if (fun h=>?_) (fun h=>?_)
  ·try simp only [bb_1,bz]at h
   refine W.lt fun b10 bb_2=>W.if (fun _=>W.rt trivial) (fun h=>?_)
   try simp only [bb_1,bb_2,bz]at h
   unfold Kn
   refine W.if (fun h=>?_) (fun _=>W.rt trivial)
   try simp only [bb_1,bb_2,bz]at h
   refine W.bd (BK (Ct k_a0)) (fun r7 q_r7=>?_)
   replace q_r7:r7=true→0≤a0.Filter.Zone∧a0.Filter.Zone≤5∧0≤a0.Filter.Who∧a0.Filter.Who≤2∧0≤a0.Filter.Self∧a0.Filter.Self≤2∧0≤a0.Filter.Tap∧a0.Filter.Tap≤2∧0≤a0.Filter.Power.Kind∧a0.Filter.Power.Kind≤3∧0≤a0.Filter.Tough.Kind∧a0.Filter.Tough.Kind≤3∧0≤a0.Filter.Value.Kind∧a0.Filter.Value.Kind≤3∧a0.Filter.Sub.length≤32:=q_r7
   have:=AN (Ax (Ct k_a0))
   exact W.rt trivial
  ·try simp only [bb_1,bz]at h
   refine W.if (fun _=>W.rt trivial) (fun h=>?_)
   try simp only [bb_1,bz]at h
   unfold Kn
   refine W.if (fun h=>?_) (fun _=>W.rt trivial)
   try simp only [bb_1,bz]at h
   refine W.bd (BK (Ct k_a0)) (fun r7 q_r7=>?_)
   replace q_r7:r7=true→0≤a0.Filter.Zone∧a0.Filter.Zone≤5∧0≤a0.Filter.Who∧a0.Filter.Who≤2∧0≤a0.Filter.Self∧a0.Filter.Self≤2∧0≤a0.Filter.Tap∧a0.Filter.Tap≤2∧0≤a0.Filter.Power.Kind∧a0.Filter.Power.Kind≤3∧0≤a0.Filter.Tough.Kind∧a0.Filter.Tough.Kind≤3∧0≤a0.Filter.Value.Kind∧a0.Filter.Value.Kind≤3∧a0.Filter.Sub.length≤32:=q_r7
   have:=AN (Ax (Ct k_a0))
   exact W.rt trivial
 ·try simp only [bz]at h
  unfold SU
  try simp only [jn]
  refine W.lt fun b3 bb_3=>W.if (fun _=>W.rt trivial) (fun h=>?_)
  try simp only [bb_3,bz]at h
  refine W.bd (Ns) fun r8 q_r8=>W.if (fun h=>?_) (fun h=>?_)
  ·try simp only [bb_3,bz]at h
   refine W.lt fun b10 bb_4=>W.if (fun _=>W.rt trivial) (fun h=>?_)
   try simp only [bb_3,bb_4,bz]at h
   unfold Kn
   refine W.if (fun h=>?_) (fun _=>W.rt trivial)
   try simp only [bb_3,bb_4,bz]at h
   refine W.bd (BK (Ct k_a0)) (fun r7 q_r7=>?_)
   replace q_r7:r7=true→0≤a0.Filter.Zone∧a0.Filter.Zone≤5∧0≤a0.Filter.Who∧a0.Filter.Who≤2∧0≤a0.Filter.Self∧a0.Filter.Self≤2∧0≤a0.Filter.Tap∧a0.Filter.Tap≤2∧0≤a0.Filter.Power.Kind∧a0.Filter.Power.Kind≤3∧0≤a0.Filter.Tough.Kind∧a0.Filter.Tough.Kind≤3∧0≤a0.Filter.Value.Kind∧a0.Filter.Value.Kind≤3∧a0.Filter.Sub.length≤32:=q_r7
   have:=AN (Ax (Ct k_a0))
   exact W.rt trivial
  ·try simp only [bb_3,bz]at h
   refine W.if (fun _=>W.rt trivial) (fun h=>?_)
   try simp only [bb_3,bz]at h
   unfold Kn
   refine W.if (fun h=>?_) (fun _=>W.rt trivial)
   try simp only [bb_3,bz]at h
   refine W.bd (BK (Ct k_a0)) (fun r7 q_r7=>?_)
   replace q_r7:r7=true→0≤a0.Filter.Zone∧a0.Filter.Zone≤5∧0≤a0.Filter.Who∧a0.Filter.Who≤2∧0≤a0.Filter.Self∧a0.Filter.Self≤2∧0≤a0.Filter.Tap∧a0.Filter.Tap≤2∧0≤a0.Filter.Power.Kind∧a0.Filter.Power.Kind≤3∧0≤a0.Filter.Tough.Kind∧a0.Filter.Tough.Kind≤3∧0≤a0.Filter.Value.Kind∧a0.Filter.Value.Kind≤3∧a0.Filter.Sub.length≤32:=q_r7
   have:=AN (Ax (Ct k_a0))
   exact W.rt trivial
theorem RQ {a0:Cd} (k_a0:Hy a0):W (dU a0) (fun r=>True):=by
 unfold dU
 try simp only [jn]
 refine W.if (fun h=>?_) (fun h=>?_)
 ·try simp only [bz]at h
  refine W.lt fun b6 bb_1=>W.if (fun _=>W.rt trivial) (fun h=>?_)
  try simp only [bb_1,bz]at h
  unfold Ko
  refine W.lt fun b3 bb_2=>W.lt fun b4 bb_3=>W.rt trivial
 ·try simp only [bz]at h
  refine W.if (fun h=>?_) (fun h=>?_)
  ·try simp only [bz]at h
   refine W.lt fun b9 bb_4=>W.gb (fun _=>BK (S5 k_a0)) fun r10 _=>W.lt fun b11 bb_6=>W.if (fun _=>W.rt trivial) (fun h=>?_)
   try simp only [bb_4,bb_6,bz]at h
   unfold Ko
   refine W.lt fun b3 bb_7=>W.lt fun b4 bb_8=>W.rt trivial
  ·try simp only [bz]at h
   refine W.if (fun h=>?_) (fun h=>?_)
   ·try simp only [bz]at h
    refine W.bd (PP) fun r14 _=>W.if (fun _=>W.rt trivial) (fun h=>?_)
    try simp only [bz]at h
    unfold Ko
    refine W.lt fun b3 bb_9=>W.lt fun b4 bb_10=>W.rt trivial
   ·try simp only [bz]at h
    unfold Ko
    refine W.lt fun b3 bb_11=>W.lt fun b4 bb_12=>W.rt trivial
theorem AG {a0:Int} {a1:Ar} (k_a1:AZ a1):W (Lu a0 a1) (fun r=>True):=by
 unfold Lu
 try simp only [jn]
 refine W.if (fun h=>?_) (fun h=>?_)
 ·try simp only [bz]at h
  unfold JG
  refine W.bd (BK k_a1) (fun r3 q_r3=>?_)
  replace q_r3:r3=true→0≤a1.Zone∧a1.Zone≤5∧0≤a1.Who∧a1.Who≤2∧0≤a1.Self∧a1.Self≤2∧0≤a1.Tap∧a1.Tap≤2∧0≤a1.Power.Kind∧a1.Power.Kind≤3∧0≤a1.Tough.Kind∧a1.Tough.Kind≤3∧0≤a1.Value.Kind∧a1.Value.Kind≤3∧a1.Sub.length≤32:=q_r3
  have:=AN (Ax k_a1)
  refine W.lt fun b4 bb_1=>W.rt trivial
 ·try simp only [bz]at h
  unfold JG
  refine W.bd (BK k_a1) (fun r3 q_r3=>?_)
  replace q_r3:r3=true→0≤a1.Zone∧a1.Zone≤5∧0≤a1.Who∧a1.Who≤2∧0≤a1.Self∧a1.Self≤2∧0≤a1.Tap∧a1.Tap≤2∧0≤a1.Power.Kind∧a1.Power.Kind≤3∧0≤a1.Tough.Kind∧a1.Tough.Kind≤3∧0≤a1.Value.Kind∧a1.Value.Kind≤3∧a1.Sub.length≤32:=q_r3
  have:=AN (Ax k_a1)
  refine W.lt fun b4 bb_2=>W.rt trivial
theorem Zx {a0:Ao} (k_a0:Bk a0):W (Jd a0) (fun r=>True):=by
 unfold Jd
 try simp only [jn]
 refine W.bd (CO) fun r1 _=>W.if (fun _=>W.rt trivial) (fun h=>?_)
 try simp only [bz]at h
 have:=AY (Bu k_a0)
 refine W.it (fun(v:Int)=>0≤v∧(v≤(a0.Players.length:Int)∨v≤0)) (fun v=>((a0.Players.length:Int) - v).toNat) (by omega) (by omega) (fun i_t3_8 hv=>?_)
 unfold LW
 refine W.if (fun h=>?_) (fun h=>?_)
 ·try simp only [bz]at h
  refine W.bd (W.idx (by omega)) fun e12 q_e12=>W.bd (CO) fun r13 _=>W.gb (fun _=>CO) fun r14 _=>W.lt fun b15 bb_2=>W.gb (fun _=>CO) fun r16 _=>W.lt fun b17 bb_4=>W.gb (fun _=>je) fun r18 _=>W.lt fun b19 bb_6=>W.if (fun _=>W.ex (W.rt trivial)) (fun h=>?_)
  try simp only [bb_2,bb_4,bb_6,bz]at h
  refine W.bd (IC k_a0 (Ji (show Cv e12 from Bp (Bu k_a0) q_e12.1))) fun r21 _=>W.gb (fun _=>IC k_a0 (Nn (show Cv e12 from Bp (Bu k_a0) q_e12.1))) fun r22 _=>W.lt fun b23 bb_8=>W.gb (fun _=>IC k_a0 (G0 (show Cv e12 from Bp (Bu k_a0) q_e12.1))) fun r24 _=>W.lt fun b25 bb_10=>W.if (fun _=>W.ex (W.rt trivial)) (fun h=>?_)
  try simp only [bb_2,bb_4,bb_6,bb_8,bb_10,bz]at h
  have ww_11:Ac (i_t3_8+(1:Int))=i_t3_8+(1:Int):=Af (by omega) (by omega)
  exact W.nx (by(try dsimp only);first | omega | (and_intros<;>first | omega | assumption) | (simp;omega)) (by(try dsimp only);omega)
 ·try simp only [bz]at h
  refine W.ex ?_
  try dsimp only [Sum.elim_inl,Sum.elim_inr]
  unfold M7
  refine W.bd (IC k_a0 (GJ k_a0)) fun r4 _=>W.gb (fun _=>IC k_a0 (No k_a0)) fun r5 _=>W.lt fun b6 bb_13=>W.rt trivial
theorem RR {a0:AO} {a1:Ah} {a2:Int} {a3:Int} {a4:Ar} (k_a1:A8 a1) (k_a4:AZ a4):W (FS a0 a1 a2 a3 a4) (fun r=>True):=by
 unfold FS
 refine W.bd (BK k_a4) (fun r1 q_r1=>?_)
 replace q_r1:r1=true→0≤a4.Zone∧a4.Zone≤5∧0≤a4.Who∧a4.Who≤2∧0≤a4.Self∧a4.Self≤2∧0≤a4.Tap∧a4.Tap≤2∧0≤a4.Power.Kind∧a4.Power.Kind≤3∧0≤a4.Tough.Kind∧a4.Tough.Kind≤3∧0≤a4.Value.Kind∧a4.Value.Kind≤3∧a4.Sub.length≤32:=q_r1
 have:=AN (Ax k_a4)
 refine W.lt fun b2 bb_1=>W.gb (fun _=>pO) fun r3 _=>W.lt fun b4 bb_3=>W.gb (fun _=>mF) fun r5 _=>W.lt fun b6 bb_5=>W.gb (fun _=>pP) fun r7 _=>W.lt fun b8 bb_7=>W.if (fun _=>W.rt trivial) (fun h=>?_)
 try simp only [bb_1,bb_3,bb_5,bb_7,bz]at h
 refine W.gb (fun _=>Ez) fun r10 _=>W.lt fun b11 bb_9=>W.gb (fun _=>Ez) fun r12 _=>W.lt fun b13 bb_11=>W.if (fun _=>W.rt trivial) (fun h=>?_)
 try simp only [bb_1,bb_3,bb_5,bb_7,bb_9,bb_11,bz]at h
 refine W.gb (fun _=>Ez) fun r15 _=>W.lt fun b16 bb_13=>W.gb (fun _=>Ez) fun r17 _=>W.lt fun b18 bb_15=>W.if (fun _=>W.rt trivial) (fun h=>?_)
 try simp only [bb_1,bb_3,bb_5,bb_7,bb_9,bb_11,bb_13,bb_15,bz]at h
 refine W.gb (fun _=>RN (Yq k_a1)) fun r20 _=>W.lt fun b21 bb_17=>W.gb (fun _=>pQ) fun r22 _=>W.lt fun b23 bb_19=>W.if (fun _=>W.rt trivial) (fun h=>?_)
 try simp only [bb_1,bb_3,bb_5,bb_7,bb_9,bb_11,bb_13,bb_15,bb_17,bb_19,bz]at h
 refine W.bd (eG) fun r25 _=>W.rt trivial
theorem YB {a0:BI} (k_a0:CC a0):W (Rx a0) (fun r=>r.length≤140737488400000):=by
 unfold Rx
 refine W.bd (Yz k_a0) fun r1 _=>W.if (fun h=>?_) (fun h=>?_)
 ·try simp only [bz]at h
  refine W.rt ?_
  first | omega | decide
 ·try simp only [bz]at h
  refine W.if (fun h=>?_) (fun h=>?_)
  ·try simp only [bz]at h
   refine W.rt ?_
   have ll_1:UD.length=7:=rfl
   first | omega | decide
  ·try simp only [bz]at h
   refine W.if (fun h=>?_) (fun h=>?_)
   ·try simp only [bz]at h
    refine W.bd (GX) (fun r5 q_r5=>?_)
    replace q_r5:r5.length≤500:=q_r5
    have ll_2:Px.length=6:=rfl
    refine W.bd (W.cat (by first | omega | (simp;omega))) (fun s6 q_s6=>?_)
    replace q_s6:s6.length=(Px).length +(r5).length :=q_s6.2
    refine W.rt ?_
    first | omega | decide
   ·try simp only [bz]at h
    refine W.if (fun h=>?_) (fun h=>?_)
    ·try simp only [bz]at h
     refine W.bd (GX) (fun r8 q_r8=>?_)
     replace q_r8:r8.length≤500:=q_r8
     have ll_3:MC.length=7:=rfl
     refine W.bd (W.cat (by first | omega | (simp;omega))) (fun s9 q_s9=>?_)
     replace q_s9:s9.length=(MC).length +(r8).length :=q_s9.2
     refine W.rt ?_
     first | omega | decide
    ·try simp only [bz]at h
     refine W.if (fun h=>?_) (fun h=>?_)
     ·try simp only [bz]at h
      have:=AN (CU k_a0)
      have ll_4:Xu.length=4:=rfl
      refine W.bd (W.cat (by first | omega | (simp;omega))) (fun s11 q_s11=>?_)
      replace q_s11:s11.length=(Xu).length +(a0.Sub).length :=q_s11.2
      refine W.rt ?_
      first | omega | decide
     ·try simp only [bz]at h
      refine W.if (fun h=>?_) (fun h=>?_)
      ·try simp only [bz]at h
       have:=AN (CU k_a0)
       have ll_5:SH.length=5:=rfl
       refine W.bd (W.cat (by first | omega | (simp;omega))) (fun s13 q_s13=>?_)
       replace q_s13:s13.length=(SH).length +(a0.Sub).length :=q_s13.2
       refine W.rt ?_
       first | omega | decide
      ·try simp only [bz]at h
       refine W.if (fun h=>?_) (fun h=>?_)
       ·try simp only [bz]at h
        refine W.bd (Yw) (fun r15 q_r15=>?_)
        replace q_r15:r15.length≤150:=q_r15
        have ll_6:MD.length=7:=rfl
        refine W.bd (W.cat (by first | omega | (simp;omega))) (fun s16 q_s16=>?_)
        replace q_s16:s16.length=(MD).length +(r15).length :=q_s16.2
        refine W.rt ?_
        first | omega | decide
       ·try simp only [bz]at h
        refine W.if (fun h=>?_) (fun h=>?_)
        ·try simp only [bz]at h
         refine W.bd (Yw) (fun r18 q_r18=>?_)
         replace q_r18:r18.length≤150:=q_r18
         have ll_7:KT.length=8:=rfl
         refine W.bd (W.cat (by first | omega | (simp;omega))) (fun s19 q_s19=>?_)
         replace q_s19:s19.length=(KT).length +(r18).length :=q_s19.2
         refine W.rt ?_
         first | omega | decide
        ·try simp only [bz]at h
         refine W.if (fun h=>?_) (fun h=>?_)
         ·try simp only [bz]at h
          refine W.bd (Yx) (fun r21 q_r21=>?_)
          replace q_r21:r21.length≤1000:=q_r21
          have ll_8:Py.length=6:=rfl
          refine W.bd (W.cat (by first | omega | (simp;omega))) (fun s22 q_s22=>?_)
          replace q_s22:s22.length=(Py).length +(r21).length :=q_s22.2
          refine W.rt ?_
          first | omega | decide
         ·try simp only [bz]at h
          refine W.if (fun h=>?_) (fun h=>?_)
          ·try simp only [bz]at h
           refine W.bd (Yx) (fun r24 q_r24=>?_)
           replace q_r24:r24.length≤1000:=q_r24
           have ll_9:E7.length=6:=rfl
           refine W.bd (W.cat (by first | omega | (simp;omega))) (fun s25 q_s25=>?_)
           replace q_s25:s25.length=(E7).length +(r24).length :=q_s25.2
           refine W.rt ?_
           first | omega | decide
          ·try simp only [bz]at h
           refine W.if (fun h=>?_) (fun h=>?_)
           ·try simp only [bz]at h
            refine W.rt ?_
            have ll_10:ba.length=5:=rfl
            first | omega | decide
           ·try simp only [bz]at h
            refine W.if (fun h=>?_) (fun h=>?_)
            ·try simp only [bz]at h
             refine W.bd (mL (Ba k_a0)) (fun r28 q_r28=>?_)
             replace q_r28:r28.length≤31000:=q_r28
             have ll_11:Jt.length=9:=rfl
             refine W.bd (W.cat (by first | omega | (simp;omega))) (fun s29 q_s29=>?_)
             replace q_s29:s29.length=(Jt).length +(r28).length :=q_s29.2
             have ll_12:cV.length=1:=rfl
             refine W.bd (W.cat (by first | omega | (simp;omega))) (fun s30 q_s30=>?_)
             replace q_s30:s30.length=(s29).length +(cV).length :=q_s30.2
             refine W.rt ?_
             first | omega | decide
            ·try simp only [bz]at h
             refine W.if (fun h=>?_) (fun h=>?_)
             ·try simp only [bz]at h
              refine W.bd (FZ) (fun r32 q_r32=>?_)
              replace q_r32:r32.length≤21:=q_r32
              have ll_13:cW.length=3:=rfl
              refine W.bd (W.cat (by first | omega | (simp;omega))) (fun s33 q_s33=>?_)
              replace q_s33:s33.length=(cW).length +(r32).length :=q_s33.2
              have ll_14:NX.length=1:=rfl
              refine W.bd (W.cat (by first | omega | (simp;omega))) (fun s34 q_s34=>?_)
              replace q_s34:s34.length=(s33).length +(NX).length :=q_s34.2
              refine W.bd (FZ) (fun r35 q_r35=>?_)
              replace q_r35:r35.length≤21:=q_r35
              refine W.bd (W.cat (by first | omega | (simp;omega))) (fun s36 q_s36=>?_)
              replace q_s36:s36.length=(s34).length +(r35).length :=q_s36.2
              refine W.rt ?_
              first | omega | decide
             ·try simp only [bz]at h
              refine W.if (fun h=>?_) (fun h=>?_)
              ·try simp only [bz]at h
               refine W.bd (FZ) (fun r38 q_r38=>?_)
               replace q_r38:r38.length≤21:=q_r38
               have ll_15:XD.length=4:=rfl
               refine W.bd (W.cat (by first | omega | (simp;omega))) (fun s39 q_s39=>?_)
               replace q_s39:s39.length=(XD).length +(r38).length :=q_s39.2
               have ll_16:NX.length=1:=rfl
               refine W.bd (W.cat (by first | omega | (simp;omega))) (fun s40 q_s40=>?_)
               replace q_s40:s40.length=(s39).length +(NX).length :=q_s40.2
               refine W.bd (FZ) (fun r41 q_r41=>?_)
               replace q_r41:r41.length≤21:=q_r41
               refine W.bd (W.cat (by first | omega | (simp;omega))) (fun s42 q_s42=>?_)
               replace q_s42:s42.length=(s40).length +(r41).length :=q_s42.2
               refine W.rt ?_
               first | omega | decide
              ·try simp only [bz]at h
               refine W.rt ?_
               have ll_17:OF.length=9:=rfl
               first | omega | decide
theorem jl {a0:BB} (k_a0:EJ a0):W (Od a0) (fun r=>True):=by
 unfold Od
 refine W.gb (fun _=>NF (Fu k_a0)) fun r1 _=>W.lt fun b2 bb_2=>W.if (fun _=>W.rt trivial) (fun h=>?_)
 try simp only [bb_2,bz]at h
 refine W.if (fun h=>?_) (fun h=>?_)
 ·try simp only [bb_2,bz]at h
  refine W.lt fun b5 bb_3=>W.lt fun b6 bb_4=>W.lt fun b7 bb_5=>W.lt fun b8 bb_6=>W.rt trivial
 ·try simp only [bb_2,bz]at h
  refine W.if (fun h=>?_) (fun h=>?_)
  ·try simp only [bb_2,bz]at h
   refine W.lt fun b10 bb_7=>W.lt fun b11 bb_8=>W.rt trivial
  ·try simp only [bb_2,bz]at h
   refine W.if (fun h=>?_) (fun _=>W.rt trivial)
   try simp only [bb_2,bz]at h
   refine W.lt fun b13 bb_9=>W.lt fun b14 bb_10=>W.lt fun b15 bb_11=>W.lt fun b16 bb_12=>W.rt trivial
theorem Bv {a0:List (DF)} (k_a0:B5 144 Jh a0):W (Oe a0) (fun r=>True):=by
 unfold Oe
 try simp only [jn]
 have:=AY k_a0
 refine W.it (fun(v:Int)=>0≤v∧(v≤(a0.length:Int)∨v≤0)) (fun v=>((a0.length:Int) - v).toNat) (by omega) (by omega) (fun i_t3_3 hv=>?_)
 unfold Ry
 refine W.if (fun h=>?_) (fun _=>W.ex (W.rt trivial))
 try simp only [bz]at h
 refine W.bd (W.idx (by omega)) fun e7 q_e7=>W.bd (mM (show Jh e7 from Bp k_a0 q_e7.1)) fun r8 _=>W.if (fun _=>W.ex (W.rt trivial)) (fun h=>?_)
 try simp only [bz]at h
 have ww_1:Ac (i_t3_3+(1:Int))=i_t3_3+(1:Int):=Af (by omega) (by omega)
 exact W.nx (by(try dsimp only);first | omega | (and_intros<;>first | omega | assumption) | (simp;omega)) (by(try dsimp only);omega)
theorem ID {a0:List (BI)} (k_a0:B5 176 CC a0):W (Ee a0) (fun r=>True):=by
 unfold Ee
 try simp only [jn]
 refine W.lt fun b1 bb_1=>W.if (fun _=>W.rt trivial) (fun h=>?_)
 try simp only [bb_1,bz]at h
 have:=AY k_a0
 refine W.it (fun(v:(List UInt8)×Int)=>0≤v.2∧(v.2≤a0.length∨v.2≤0)∧(v.1.length:Int)≤140737488410000*v.2) (fun v=>((a0.length:Int) - v.2).toNat) ?_ ?_ (fun v hv=>?_)
 ·(try dsimp only);first | omega | (simp;omega) | (and_intros<;>first | omega | assumption | (simp;omega) | simp)
 ·(try dsimp only);first | omega | (simp;omega) | (and_intros<;>first | omega | assumption | (simp;omega) | simp)
 ·obtain⟨out_t3_7,i_t4_8⟩:=v
  replace hv:0≤i_t4_8∧(i_t4_8≤a0.length∨i_t4_8≤0)∧(out_t3_7.length:Int)≤140737488410000*i_t4_8:=hv
  show W (FV a0 out_t3_7 i_t4_8) _
  unfold FV
  try simp only [jn]
  refine W.if (fun h=>?_) (fun _=>W.ex (W.rt trivial))
  try simp only [bb_1,bz]at h
  refine W.bd (W.idx (by omega)) fun e13 q_e13=>W.bd (Yz (show CC e13 from Bp k_a0 q_e13.1)) fun r14 _=>W.if (fun _=>W.ex (W.rt trivial)) (fun h=>?_)
  try simp only [bb_1,bz]at h
  refine W.if (fun h=>?_) (fun h=>?_)
  ·try simp only [bb_1,bz]at h
   have ll_2:SG.length=2:=rfl
   refine W.bd (W.cat (by first | omega | (simp;omega))) (fun s22 q_s22=>?_)
   replace q_s22:s22.length=(out_t3_7).length +(SG).length :=q_s22.2
   unfold FT
   refine W.re q_e13.2.2 ?_
   refine W.bd (YB (show CC e13 from Bp k_a0 q_e13.1)) (fun r19 q_r19=>?_)
   replace q_r19:r19.length≤140737488400000:=q_r19
   refine W.bd (W.cat (by first | omega | (simp;omega))) (fun s20 q_s20=>?_)
   replace q_s20:s20.length=(s22).length +(r19).length :=q_s20.2
   have ww_3:Ac (i_t4_8+(1:Int))=i_t4_8+(1:Int):=Af (by omega) (by omega)
   exact W.nx (by(try dsimp only);first | omega | (and_intros<;>first | omega | assumption) | (simp;omega)) (by(try dsimp only);omega)
  ·try simp only [bb_1,bz]at h
   unfold FT
   refine W.re q_e13.2.2 ?_
   refine W.bd (YB (show CC e13 from Bp k_a0 q_e13.1)) (fun r19 q_r19=>?_)
   replace q_r19:r19.length≤140737488400000:=q_r19
   refine W.bd (W.cat (by first | omega | (simp;omega))) (fun s20 q_s20=>?_)
   replace q_s20:s20.length=(out_t3_7).length +(r19).length :=q_s20.2
   have ww_4:Ac (i_t4_8+(1:Int))=i_t4_8+(1:Int):=Af (by omega) (by omega)
   exact W.nx (by(try dsimp only);first | omega | (and_intros<;>first | omega | assumption) | (simp;omega)) (by(try dsimp only);omega)
theorem GK {a0:BB} (k_a0:EJ a0):W (d8 a0) (fun r=>True):=by
 unfold d8
 try simp only [jn]
 refine W.if (fun h=>?_) (fun h=>?_)
 ·try simp only [bz]at h
  refine W.bd (jl k_a0) fun r2 _=>W.rt trivial
 ·try simp only [bz]at h
  refine W.bd (jc) fun r3 _=>W.if (fun _=>W.rt trivial) (fun h=>?_)
  try simp only [bz]at h
  refine W.lt fun b5 bb_1=>W.lt fun b6 bb_2=>W.if (fun h=>?_) (fun h=>?_)
  ·try simp only [bb_1,bb_2,bz]at h
   refine W.lt fun b8 bb_3=>W.lt fun b9 bb_4=>W.lt fun b10 bb_5=>W.if (fun _=>W.rt trivial) (fun h=>?_)
   try simp only [bb_1,bb_2,bb_3,bb_4,bb_5,bz]at h
   refine W.gb (fun _=>NF (Fu k_a0)) fun r12 _=>W.lt fun b13 bb_7=>W.lt fun b14 bb_8=>W.lt fun b15 bb_9=>W.lt fun b16 bb_10=>W.rt trivial
  ·try simp only [bb_1,bb_2,bz]at h
   refine W.if (fun h=>?_) (fun h=>?_)
   ·try simp only [bb_1,bb_2,bz]at h
    refine W.lt fun b18 bb_11=>W.gb (fun _=>NF (Fu k_a0)) fun r19 _=>W.lt fun b20 bb_13=>W.rt trivial
   ·try simp only [bb_1,bb_2,bz]at h
    refine W.if (fun h=>?_) (fun h=>?_)
    ·try simp only [bb_1,bb_2,bz]at h
     refine W.lt fun b22 bb_14=>W.lt fun b23 bb_15=>W.lt fun b24 bb_16=>W.lt fun b25 bb_17=>W.rt trivial
    ·try simp only [bb_1,bb_2,bz]at h
     refine W.if (fun h=>?_) (fun h=>?_)
     ·try simp only [bb_1,bb_2,bz]at h
      unfold Lv
      refine W.if (fun h=>?_) (fun _=>W.rt trivial)
      try simp only [bb_1,bb_2,bz]at h
      refine W.lt fun b29 bb_18=>W.lt fun b30 bb_19=>W.lt fun b31 bb_20=>W.rt trivial
     ·try simp only [bb_1,bb_2,bz]at h
      refine W.if (fun h=>?_) (fun h=>?_)
      ·try simp only [bb_1,bb_2,bz]at h
       unfold Lv
       refine W.if (fun h=>?_) (fun _=>W.rt trivial)
       try simp only [bb_1,bb_2,bz]at h
       refine W.lt fun b29 bb_21=>W.lt fun b30 bb_22=>W.lt fun b31 bb_23=>W.rt trivial
      ·try simp only [bb_1,bb_2,bz]at h
       unfold Lv
       refine W.if (fun h=>?_) (fun _=>W.rt trivial)
       try simp only [bb_1,bb_2,bz]at h
       refine W.lt fun b29 bb_24=>W.lt fun b30 bb_25=>W.lt fun b31 bb_26=>W.rt trivial
theorem D9 {a0:List (BI)} (k_a0:B5 176 CC a0):W (RA a0) (fun r=>True):=by
 unfold RA
 refine W.bd (ID k_a0) fun r1 _=>W.rt trivial
end Go.PL
