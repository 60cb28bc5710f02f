/- Functions that answer: proofs. -/
import Derived.Test.YtiddnfpjgojoaaaGreatDoorPlEdB
import Derived.Test.YtiddnfpjgojoaaaGreatDoorPlEdF10
import Derived.Test.YtiddnfpjgojoaaaGreatDoorPlEdF6
import Derived.Test.YtiddnfpjgojoaaaGreatDoorPlEdF8
import Derived.Test.YtiddnfpjgojoaaaGreatDoorPlEtL
import Derived.Test.YtiddnfpjgojoaaaGreatDoorPlEtW0
import Derived.Test.YtiddnfpjgojoaaaGreatDoorPlEtW2
namespace Go.PL
open Go
set_option maxRecDepth 100000
set_option linter.all false
set_option maxHeartbeats 2000000
theorem Yh {a0:Int}:W (MQ a0) (fun r=>r.length≤1000):=by
 unfold MQ
 try simp only [jn]
 refine W.bd (iK) fun r1 _=>W.if (fun h=>?_) (fun h=>?_)
 ·try simp only [bz]at h
  refine W.rt ?_
  first | assumption | omega | (simp only [bz];omega) | (simp only [bz];intros;omega) | (intros;simp only [bz]at *;omega) | exact⟨by simp,by simp⟩ | decide | simp_all
 ·try simp only [bz]at h
  refine W.it (fun(v:Int×(List UInt8)×Int)=>0≤v.2.2∧v.2.2≤17∧(v.2.1.length:Int)≤50*v.2.2) (fun v=>(17 - v.2.2).toNat) ?_ ?_ (fun v hv=>?_)
  ·(try dsimp only);first | omega | (simp;omega) | (and_intros<;>first | omega | assumption | (simp;omega) | simp)
  ·(try dsimp only);first | omega | (simp;omega) | (and_intros<;>first | omega | assumption | (simp;omega) | simp)
  ·obtain⟨mask_t0_9,s_t3_10,i_t4_11⟩:=v
   replace hv:0≤i_t4_11∧i_t4_11≤17∧(s_t3_10.length:Int)≤50*i_t4_11:=hv
   show W (KW mask_t0_9 s_t3_10 i_t4_11) _
   unfold KW
   try simp only [jn]
   refine W.if (fun h=>?_) (fun h=>?_)
   ·try simp only [bz]at h
    refine W.if (fun h=>?_) (fun h=>?_)
    ·try simp only [bz]at h
     refine W.if (fun h=>?_) (fun h=>?_)
     ·try simp only [bz]at h
      have ll_1:IQ.length=1:=rfl
      refine W.bd (W.cat (by first | omega | (simp;omega))) (fun s23 q_s23=>?_)
      replace q_s23:s23.length=(s_t3_10).length +(IQ).length :=q_s23.2
      unfold KV
      try simp only [jn]
      refine W.bd (PI) (fun r20 q_r20=>?_)
      replace q_r20:r20.length≤40:=q_r20
      refine W.bd (W.cat (by first | omega | (simp;omega))) (fun s21 q_s21=>?_)
      replace q_s21:s21.length=(s23).length +(r20).length :=q_s21.2
      unfold G9
      have ww_2:Ac (i_t4_11+(1:Int))=i_t4_11+(1:Int):=Af (by omega) (by omega)
      exact W.nx (by(try dsimp only);first | omega | (and_intros<;>first | omega | assumption) | (simp;omega)) (by(try dsimp only);omega)
     ·try simp only [bz]at h
      unfold KV
      try simp only [jn]
      refine W.bd (PI) (fun r20 q_r20=>?_)
      replace q_r20:r20.length≤40:=q_r20
      refine W.bd (W.cat (by first | omega | (simp;omega))) (fun s21 q_s21=>?_)
      replace q_s21:s21.length=(s_t3_10).length +(r20).length :=q_s21.2
      unfold G9
      have ww_3:Ac (i_t4_11+(1:Int))=i_t4_11+(1:Int):=Af (by omega) (by omega)
      exact W.nx (by(try dsimp only);first | omega | (and_intros<;>first | omega | assumption) | (simp;omega)) (by(try dsimp only);omega)
    ·try simp only [bz]at h
     unfold G9
     have ww_4:Ac (i_t4_11+(1:Int))=i_t4_11+(1:Int):=Af (by omega) (by omega)
     exact W.nx (by(try dsimp only);first | omega | (and_intros<;>first | omega | assumption) | (simp;omega)) (by(try dsimp only);omega)
   ·try simp only [bz]at h
    refine W.ex ?_
    try dsimp only [Sum.elim_inl,Sum.elim_inr]
    unfold UJ
    refine W.if (fun h=>?_) (fun h=>?_)
    ·try simp only [bz]at h
     refine W.rt ?_
     have ll_5:Qr.length=4:=rfl
     first | assumption | omega | (simp only [bz];omega) | (simp only [bz];intros;omega) | (intros;simp only [bz]at *;omega) | exact⟨by simp,by simp⟩ | decide | simp_all
    ·try simp only [bz]at h
     refine W.rt ?_
     first | assumption | omega | (simp only [bz];omega) | (simp only [bz];intros;omega) | (intros;simp only [bz]at *;omega) | exact⟨by simp,by simp⟩ | decide | simp_all
theorem GS {a0:List UInt8} {a1:Ax} (k_a0:Fq a0) (p_0:a0.length≤10) (p_1:0≤a1.Kind∧a1.Kind≤3):W (Dw a0 a1) (fun r=>r.length≤100):=by
 unfold Dw
 refine W.if (fun h=>?_) (fun h=>?_)
 ·try simp only [bz]at h
  refine W.rt ?_
  first | assumption | omega | (simp only [bz];omega) | (simp only [bz];intros;omega) | (intros;simp only [bz]at *;omega) | exact⟨by simp,by simp⟩ | decide | simp_all
 ·try simp only [bz]at h
  refine W.bd (iM) (fun r2 q_r2=>?_)
  replace q_r2:r2.length=4∧ ∀ y∈r2,y.length≤40:=q_r2
  obtain⟨_,q_r2_2⟩:=q_r2
  refine W.bd (W.idx (by omega)) (fun e3 q_e3=>?_)
  have ll_1:=q_r2_2 e3 q_e3.1
  have:=AL k_a0
  refine W.bd (W.cat (by first | omega | (simp;omega))) (fun s4 q_s4=>?_)
  replace q_s4:s4.length=(a0).length +(e3).length :=q_s4.2
  refine W.bd (FT) (fun r5 q_r5=>?_)
  replace q_r5:r5.length≤21:=q_r5
  refine W.bd (W.cat (by first | omega | (simp;omega))) (fun s6 q_s6=>?_)
  replace q_s6:s6.length=(s4).length +(r5).length :=q_s6.2
  refine W.rt ?_
  first | assumption | omega | (simp only [bz];omega) | (simp only [bz];intros;omega) | (intros;simp only [bz]at *;omega) | exact⟨by simp,by simp⟩ | decide | simp_all
theorem OM {a0:Bs} {s_t3_5:List UInt8} (p_0: ∀ i:Int,0≤i→i<5→a0.Color.l.getD i.toNat default≤9) (p_1:s_t3_5.length≤40):W (MR a0 s_t3_5) (fun r=>True):=by
 unfold MR
 try simp only [jn]
 refine W.it (fun(v:(List UInt8)×Int)=>0≤v.2∧v.2≤5∧(v.1.length:Int)≤40+9*v.2) (fun v=>(5 - v.2).toNat) ?_ ?_ (fun v hv=>?_)
 ·(try dsimp only);first | omega | (simp;omega) | (and_intros<;>first | omega | assumption | (simp;omega) | simp)
 ·(try dsimp only);first | omega | (simp;omega) | (and_intros<;>first | omega | assumption | (simp;omega) | simp)
 ·obtain⟨s_t3_12,i_t5_13⟩:=v
  replace hv:0≤i_t5_13∧i_t5_13≤5∧(s_t3_12.length:Int)≤40+9*i_t5_13:=hv
  show W (KY a0 s_t3_12 i_t5_13) _
  unfold KY
  try simp only [jn]
  refine W.if (fun h=>?_) (fun h=>?_)
  ·try simp only [bz]at h
   refine W.it (fun(v:(List UInt8)×Int)=>0≤v.2∧v.2≤9∧(v.1.length:Int)≤40+9*i_t5_13+v.2) (fun v=>(9 - v.2).toNat) ?_ ?_ (fun v hv=>?_)
   ·(try dsimp only);first | omega | (simp;omega) | (and_intros<;>first | omega | assumption | (simp;omega) | simp)
   ·(try dsimp only);first | omega | (simp;omega) | (and_intros<;>first | omega | assumption | (simp;omega) | simp)
   ·obtain⟨s_t3_21,k_t6_22⟩:=v
    replace hv:0≤k_t6_22∧k_t6_22≤9∧(s_t3_21.length:Int)≤40+9*i_t5_13+k_t6_22:=hv
    show W (KX a0 i_t5_13 s_t3_21 k_t6_22) _
    unfold KX
    have ll_1:a0.Color.l.length=5:=rfl
    refine W.bd (W.idx (by omega)) (fun e25 q_e25=>?_)
    have ee:=p_0 i_t5_13 (by omega) (by omega);rw [←q_e25.2.1]at ee
    refine W.re q_e25.2.2 ?_
    refine W.if (fun h=>?_) (fun h=>?_)
    ·try simp only [bz]at h
     have ll_2:aX.length=5:=rfl
     have ww_3:Ac (i_t5_13+(1:Int))=i_t5_13+(1:Int):=Af (by omega) (by omega)
     refine W.bd (W.ssub (by omega)) (fun s28 q_s28=>?_)
     replace q_s28:(s28.length:Int)=(Ac (i_t5_13+(1:Int))) - i_t5_13:=q_s28
     refine W.bd (W.cat (by first | omega | (simp;omega))) (fun s29 q_s29=>?_)
     replace q_s29:s29.length=(s_t3_21).length +(s28).length :=q_s29.2
     have ww_4:Ac (k_t6_22+(1:Int))=k_t6_22+(1:Int):=Af (by omega) (by omega)
     exact W.nx (by(try dsimp only);first | omega | (and_intros<;>first | omega | assumption) | (simp;omega)) (by(try dsimp only);omega)
    ·try simp only [bz]at h
     refine W.ex ?_
     try dsimp only [Sum.elim_inl,Sum.elim_inr]
     unfold Q6
     have ww_5:Ac (i_t5_13+(1:Int))=i_t5_13+(1:Int):=Af (by omega) (by omega)
     exact W.nx (by(try dsimp only);first | omega | (and_intros<;>first | omega | assumption) | (simp;omega)) (by(try dsimp only);omega)
  ·try simp only [bz]at h
   refine W.ex ?_
   try dsimp only [Sum.elim_inl,Sum.elim_inr]
   unfold UK
   exact W.if (fun _=>W.rt trivial) (fun _=>W.rt trivial)
theorem Zg {a0:Bs} {s_t3_3:List UInt8} (k_s_t3_3:Fq s_t3_3) (p_0: ∀ i:Int,0≤i→i<5→a0.Color.l.getD i.toNat default≤9) (p_1:s_t3_3.length≤2):W (MS a0 s_t3_3) (fun r=>True):=by
 unfold MS
 try simp only [jn]
 refine W.if (fun h=>?_) (fun h=>?_)
 ·try simp only [bz]at h
  refine W.bd (FT) (fun r31 q_r31=>?_)
  replace q_r31:r31.length≤21:=q_r31
  have:=AL k_s_t3_3
  refine W.bd (W.cat (by first | omega | (simp;omega))) (fun s32 q_s32=>?_)
  replace q_s32:s32.length=(s_t3_3).length +(r31).length :=q_s32.2
  have ll_1:a0.Color.l.length=5:=rfl
  exact OM (by first | assumption | omega | exact Ae _ | (simp;done) | (simp;omega)) (by first | assumption | omega | exact Ae _ | (simp;done) | (simp;omega))
 ·try simp only [bz]at h
  have ll_3:a0.Color.l.length=5:=rfl
  have:=AL k_s_t3_3
  exact OM (by first | assumption | omega | exact Ae _ | (simp;done) | (simp;omega)) (by first | assumption | omega | exact Ae _ | (simp;done) | (simp;omega))
theorem mu {a0:Bs}:W (Q7 a0) (fun r=>True):=by
 unfold Q7
 try simp only [jn]
 refine W.bd (Nf) (fun r1 q_r1=>?_)
 replace q_r1:r1=true→a0.X≤2∧ ∀ i:Int,0≤i→i<5→a0.Color.l.getD i.toNat default≤9:=q_r1
 have ll_1:a0.Color.l.length=5:=rfl
 refine W.if (fun _=>W.rt trivial) (fun h=>?_)
 try simp only [bz]at h
 have qq_2:=q_r1 h
 have qq_3:=qq_2.2
 refine W.it (fun(v:(List UInt8)×Int)=>0≤v.2∧v.2≤2∧(v.1.length:Int)≤v.2) (fun v=>(2 - v.2).toNat) ?_ ?_ (fun v hv=>?_)
 ·(try dsimp only);first | omega | (simp;omega) | (and_intros<;>first | omega | assumption | (simp;omega) | simp)
 ·(try dsimp only);first | omega | (simp;omega) | (and_intros<;>first | omega | assumption | (simp;omega) | simp)
 ·obtain⟨s_t3_35,i_t4_36⟩:=v
  replace hv:0≤i_t4_36∧i_t4_36≤2∧(s_t3_35.length:Int)≤i_t4_36:=hv
  show W (KZ a0 s_t3_35 i_t4_36) _
  unfold KZ
  refine W.if (fun h=>?_) (fun h=>?_)
  ·try simp only [bz]at h
   have ll_4:rB.length=1:=rfl
   refine W.bd (W.cat (by first | omega | (simp;omega))) (fun s40 q_s40=>?_)
   replace q_s40:s40.length=(s_t3_35).length +(rB).length :=q_s40.2
   have ww_5:Ac (i_t4_36+(1:Int))=i_t4_36+(1:Int):=Af (by omega) (by omega)
   exact W.nx (by(try dsimp only);first | omega | (and_intros<;>first | omega | assumption) | (simp;omega)) (by(try dsimp only);omega)
  ·try simp only [bz]at h
   refine W.ex ?_
   try dsimp only [Sum.elim_inl,Sum.elim_inr]
   exact Zg (by unfold Fq;omega) (by first | assumption | omega | exact Ae _ | (simp;done) | (simp;omega)) (by first | assumption | omega | exact Ae _ | (simp;done) | (simp;omega))
theorem RJ {a0:Ao} {a1:Int} (k_a0:Bj a0):W (FJ a0 a1) (fun r=>True):=by
 unfold FJ
 refine W.bd (mq k_a0) fun r1 _=>W.rt trivial
theorem ed {a0:Ao} {a1:AM} (k_a0:Bj a0):W (FK a0 a1) (fun r=>True):=by
 unfold FK
 refine W.if (fun h=>?_) (fun h=>?_)
 ·try simp only [bz]at h
  refine W.bd (d9 k_a0) fun r2 _=>W.rt trivial
 ·try simp only [bz]at h
  refine W.bd (mr k_a0) (fun r3 q_r3=>?_)
  replace q_r3:B3 8 IH r3:=q_r3
  refine W.bd (US q_r3) fun r4 _=>W.rt trivial
theorem Yi {a0:List (AU)} {a1:List (AU)} (k_a0:B3 560 BL a0) (k_a1:B3 560 BL a1):W (Hb a0 a1) (fun r=>True):=by
 unfold Hb
 try simp only [jn]
 have:=AX k_a0
 have:=AX k_a1
 refine W.if (fun _=>W.rt trivial) (fun h=>?_)
 try simp only [bz]at h
 refine W.it (fun(v:Int)=>0≤v∧(v≤(a0.length:Int)∨v≤0)) (fun v=>((a0.length:Int) - v).toNat) (by omega) (by omega) (fun i_t5_4 hv=>?_)
 unfold LH
 refine W.if (fun h=>?_) (fun _=>W.ex (W.rt trivial))
 try simp only [bz]at h
 refine W.bd (W.idx (by omega)) fun e8 q_e8=>W.bd (W.idx (by omega)) fun e9 q_e9=>W.bd (mt (show BL e8 from Bo k_a0 q_e8.1) (show BL e9 from Bo k_a1 q_e9.1)) fun r10 _=>W.if (fun _=>W.ex (W.rt trivial)) (fun h=>?_)
 try simp only [bz]at h
 have ww_1:Ac (i_t5_4+(1:Int))=i_t5_4+(1:Int):=Af (by omega) (by omega)
 exact W.nx (by(try dsimp only);first | omega | (and_intros<;>first | omega | assumption) | (simp;omega)) (by(try dsimp only);omega)
theorem iV {a0:A3 (Int)}:W (J9 a0) (fun r=>True):=by
 unfold J9
 have ll_1:a0.l.length=3:=rfl
 refine W.bd (W.idx (by omega)) fun e1 q_e1=>W.re q_e1.2.2 ?_
 refine W.bd (W.idx (by omega)) fun e3 q_e3=>W.re q_e3.2.2 ?_
 refine W.bd (pC) fun r5 _=>W.rt trivial
theorem iW {a0:Bs} {a1:Int}:W (N1 a0 a1) (fun r=>True):=by
 unfold N1
 try simp only [jn]
 refine W.bd (Nf) (fun r1 q_r1=>?_)
 replace q_r1:r1=true→a0.X≤2∧ ∀ i:Int,0≤i→i<5→a0.Color.l.getD i.toNat default≤9:=q_r1
 have ll_1:a0.Color.l.length=5:=rfl
 refine W.if (fun _=>W.rt trivial) (fun h=>?_)
 try simp only [bz]at h
 have qq_2:=q_r1 h
 have qq_3:=qq_2.2
 refine W.it (fun(v:Int×Int)=>0≤v.2∧(v.2≤(5:Int)∨v.2≤0)) (fun v=>((5:Int) - v.2).toNat) ?_ ?_ (fun v hv=>?_)
 ·(try dsimp only);first | omega | (simp;omega) | (and_intros<;>first | omega | assumption | (simp;omega) | simp)
 ·(try dsimp only);first | omega | (simp;omega) | (and_intros<;>first | omega | assumption | (simp;omega) | simp)
 ·obtain⟨n_t5_12,i_t6_13⟩:=v
  replace hv:0≤i_t6_13∧(i_t6_13≤(5:Int)∨i_t6_13≤0):=hv
  show W (Jr a0 n_t5_12 i_t6_13) _
  unfold Jr
  refine W.if (fun h=>?_) (fun h=>?_)
  ·try simp only [bz]at h
   refine W.bd (W.idx (by omega)) fun e17 q_e17=>W.re q_e17.2.2 ?_
   refine W.bd (FV) (fun r19 _=>?_)
   have ww_4:Ac (i_t6_13+(1:Int))=i_t6_13+(1:Int):=Af (by omega) (by omega)
   exact W.nx (by(try dsimp only);first | omega | (and_intros<;>first | omega | assumption) | (simp;omega)) (by(try dsimp only);omega)
  ·try simp only [bz]at h
   refine W.ex ?_
   try dsimp only [Sum.elim_inl,Sum.elim_inr]
   unfold Ra
   try simp only [jn]
   refine W.if (fun h=>?_) (fun h=>?_)
   ·try simp only [bz]at h
    unfold K0
    refine W.bd (br) fun r7 q_r7=>W.bd (FV) fun r8 q_r8=>W.rt trivial
   ·try simp only [bz]at h
    unfold K0
    refine W.bd (br) fun r7 q_r7=>W.bd (FV) fun r8 q_r8=>W.rt trivial
theorem sw {a0:BX} (k_a0:Fl a0):W (dv a0) (fun r=>True):=by
 unfold dv
 try simp only [jn]
 refine W.lt fun b1 bb_1=>W.lt fun b2 bb_2=>W.lt fun b3 bb_3=>W.lt fun b4 bb_4=>W.if (fun _=>W.rt trivial) (fun h=>?_)
 try simp only [bb_1,bb_2,bb_3,bb_4,bz]at h
 have:=AX (Ee k_a0)
 refine W.it (fun(v:Int)=>0≤v∧(v≤(a0.Subs.length:Int)∨v≤0)) (fun v=>((a0.Subs.length:Int) - v).toNat) (by omega) (by omega) (fun i_t3_13 hv=>?_)
 unfold XQ
 refine W.if (fun h=>?_) (fun h=>?_)
 ·try simp only [bb_1,bb_2,bb_3,bb_4,bz]at h
  refine W.bd (W.idx (by omega)) fun e17 q_e17=>W.bd (D6 (show Fq e17 from Bo (Ee k_a0) q_e17.1)) (fun r18 q_r18=>?_)
  replace q_r18:r18=true→e17.length≤32:=q_r18
  have:=AL (show Fq e17 from Bo (Ee k_a0) q_e17.1)
  refine W.gb (fun gg_5=>by try simp only [bb_1,bb_2,bb_3,bb_4,bz]at gg_5;exact W.idx (by have ww_6:Ac (i_t3_13 - (1:Int))=i_t3_13 - (1:Int):=Af (by omega) (by omega);omega)) (fun e19 _=>?_)
  refine W.gb (fun gg_7=>by try simp only [bb_1,bb_2,bb_3,bb_4,bz]at gg_7;exact W.idx (by omega)) (fun e20 _=>?_)
  refine W.lt fun b21 bb_8=>W.lt fun b22 bb_9=>W.if (fun _=>W.ex (W.rt trivial)) (fun h=>?_)
  try simp only [bb_1,bb_2,bb_3,bb_4,bb_8,bb_9,bz]at h
  have ww_10:Ac (i_t3_13+(1:Int))=i_t3_13+(1:Int):=Af (by omega) (by omega)
  exact W.nx (by(try dsimp only);first | omega | (and_intros<;>first | omega | assumption) | (simp;omega)) (by(try dsimp only);omega)
 ·try simp only [bb_1,bb_2,bb_3,bb_4,bz]at h
  refine W.ex ?_
  try dsimp only [Sum.elim_inl,Sum.elim_inr]
  unfold be
  refine W.lt fun b7 bb_11=>W.gb (fun gg_12=>by try simp only [bb_1,bb_2,bb_3,bb_4,bb_11,bz]at gg_12;exact S1 (by first | assumption | omega | exact Ae _ | (simp;done) | (simp;omega))) (fun r8 _=>?_)
  refine W.gb (fun gg_13=>by try simp only [bb_1,bb_2,bb_3,bb_4,bb_11,bz]at gg_13;exact S1 (by first | assumption | omega | exact Ae _ | (simp;done) | (simp;omega))) (fun r9 _=>?_)
  refine W.lt fun b10 bb_14=>W.lt fun b11 bb_15=>W.rt trivial
theorem BJ {a0:Aq} (k_a0:AZ a0):W (FL a0) (fun r=>r=true→0≤a0.Zone∧a0.Zone≤5∧0≤a0.Who∧a0.Who≤2∧0≤a0.Self∧a0.Self≤2∧0≤a0.Tap∧a0.Tap≤2∧0≤a0.Power.Kind∧a0.Power.Kind≤3∧0≤a0.Tough.Kind∧a0.Tough.Kind≤3∧0≤a0.Value.Kind∧a0.Value.Kind≤3∧a0.Sub.length≤32):=by
 unfold FL
 refine W.lt fun b1 bb_1=>W.lt fun b2 bb_2=>W.lt fun b3 bb_3=>W.lt fun b4 bb_4=>W.lt fun b5 bb_5=>W.lt fun b6 bb_6=>W.lt fun b7 bb_7=>W.if (fun h=>?_) (fun h=>?_)
 ·try simp only [bb_1,bb_2,bb_3,bb_4,bb_5,bb_6,bb_7,bz]at h
  refine W.rt ?_
  first | (intro hz;cases hz;done) | (intro hz;simp only [bb_1,bb_2,bb_3,bb_4,bb_5,bb_6,bb_7,bz]at hz;have hS:a0.Sub.length≤32:=(by by_cases hs:a0.Sub=[];(rw [hs];decide);(simp_all));have h1:=q_r18 hz.1.1;have h2:=q_r19 (by simp only [bz];exact hz.1.1) hz.1.2;have h3:=q_r21 (by simp only [bb_1,bb_2,bb_3,bb_4,bb_5,bb_6,bb_7,bz];exact hz.1) hz.2;omega)
 ·try simp only [bb_1,bb_2,bb_3,bb_4,bb_5,bb_6,bb_7,bz]at h
  refine W.bd (UQ) fun r9 _=>W.gb (fun _=>UQ) fun r10 _=>W.lt fun b11 bb_9=>W.if (fun h=>?_) (fun h=>?_)
  ·try simp only [bb_1,bb_2,bb_3,bb_4,bb_5,bb_6,bb_7,bb_9,bz]at h
   refine W.rt ?_
   first | (intro hz;cases hz;done) | (intro hz;simp only [bb_1,bb_2,bb_3,bb_4,bb_5,bb_6,bb_7,bb_9,bz]at hz;have hS:a0.Sub.length≤32:=(by by_cases hs:a0.Sub=[];(rw [hs];decide);(simp_all));have h1:=q_r18 hz.1.1;have h2:=q_r19 (by simp only [bz];exact hz.1.1) hz.1.2;have h3:=q_r21 (by simp only [bb_1,bb_2,bb_3,bb_4,bb_5,bb_6,bb_7,bb_9,bz];exact hz.1) hz.2;omega)
  ·try simp only [bb_1,bb_2,bb_3,bb_4,bb_5,bb_6,bb_7,bb_9,bz]at h
   refine W.gb (fun _=>D6 (Av k_a0)) fun r13 _=>W.lt fun b14 bb_11=>W.lt fun b15 bb_12=>W.lt fun b16 bb_13=>W.if (fun h=>?_) (fun h=>?_)
   ·try simp only [bb_1,bb_2,bb_3,bb_4,bb_5,bb_6,bb_7,bb_9,bb_11,bb_12,bb_13,bz]at h
    refine W.rt ?_
    first | (intro hz;cases hz;done) | (intro hz;simp only [bb_1,bb_2,bb_3,bb_4,bb_5,bb_6,bb_7,bb_9,bb_11,bb_12,bb_13,bz]at hz;have hS:a0.Sub.length≤32:=(by by_cases hs:a0.Sub=[];(rw [hs];decide);(simp_all));have h1:=q_r18 hz.1.1;have h2:=q_r19 (by simp only [bz];exact hz.1.1) hz.1.2;have h3:=q_r21 (by simp only [bb_1,bb_2,bb_3,bb_4,bb_5,bb_6,bb_7,bb_9,bb_11,bb_12,bb_13,bz];exact hz.1) hz.2;omega)
   ·try simp only [bb_1,bb_2,bb_3,bb_4,bb_5,bb_6,bb_7,bb_9,bb_11,bb_12,bb_13,bz]at h
    refine W.bd (Nh) (fun r18 q_r18=>?_)
    replace q_r18:r18=true→0≤a0.Power.Kind∧a0.Power.Kind≤3:=q_r18
    refine W.gb (fun _=>Nh) fun r19 q_r19=>W.lt fun b20 bb_15=>W.gb (fun _=>Nh) fun r21 q_r21=>W.lt fun b22 bb_17=>W.rt ?_
    first | (intro hz;cases hz;done) | (intro hz;simp only [bb_1,bb_2,bb_3,bb_4,bb_5,bb_6,bb_7,bb_9,bb_11,bb_12,bb_13,bb_15,bb_17,bz]at hz;have hS:a0.Sub.length≤32:=(by by_cases hs:a0.Sub=[];(rw [hs];decide);(simp_all));have h1:=q_r18 hz.1.1;have h2:=q_r19 (by simp only [bz];exact hz.1.1) hz.1.2;have h3:=q_r21 (by simp only [bb_1,bb_2,bb_3,bb_4,bb_5,bb_6,bb_7,bb_9,bb_11,bb_12,bb_13,bb_15,bb_17,bz];exact hz.1) hz.2;omega)
theorem Nm {a0:Int} (p_0:a0≤100):W (Fb a0) (fun r=>r.length≤500):=by
 unfold Fb
 try simp only [jn]
 refine W.it (fun(v:Int×Int)=>0≤v.2∧(v.2≤a0∨v.2≤0)) (fun v=>(a0 - v.2).toNat) ?_ ?_ (fun v hv=>?_)
 ·(try dsimp only);first | omega | (simp;omega) | (and_intros<;>first | omega | assumption | (simp;omega) | simp)
 ·(try dsimp only);first | omega | (simp;omega) | (and_intros<;>first | omega | assumption | (simp;omega) | simp)
 ·obtain⟨mask_t3_6,k_t4_7⟩:=v
  replace hv:0≤k_t4_7∧(k_t4_7≤a0∨k_t4_7≤0):=hv
  show W (GN a0 mask_t3_6 k_t4_7) _
  unfold GN
  refine W.if (fun h=>?_) (fun h=>?_)
  ·try simp only [bz]at h
   have ww_1:Ac (k_t4_7+(1:Int))=k_t4_7+(1:Int):=Af (by omega) (by omega)
   exact W.nx (by(try dsimp only);first | omega | (and_intros<;>first | omega | assumption) | (simp;omega)) (by(try dsimp only);omega)
  ·try simp only [bz]at h
   refine W.ex ?_
   try dsimp only [Sum.elim_inl,Sum.elim_inr]
   unfold LI
   refine W.bd (GR) (fun r3 q_r3=>?_)
   replace q_r3:r3.length≤500:=q_r3
   refine W.rt ?_
   first | assumption | omega | (simp only [bz];omega) | (simp only [bz];intros;omega) | (intros;simp only [bz]at *;omega) | exact⟨by simp,by simp⟩ | decide | simp_all
theorem Bd {a0:A6 (Int)}:W (Hd a0) (fun r=>True):=by
 unfold Hd
 refine W.bd (mj) fun r1 _=>W.bd (mu) fun r2 _=>W.rt trivial
theorem Iv {a0:Ao} {a1:List (Int)} {a2:Int} {a3:Int} (k_a0:Bj a0) (k_a1:B3 8 IH a1):W (Ew a0 a1 a2 a3) (fun r=>True):=by
 unfold Ew
 have:=AX k_a1
 refine W.it (fun(v:Int)=>0≤v∧(v≤(a1.length:Int)∨v≤0)) (fun v=>((a1.length:Int) - v).toNat) (by omega) (by omega) (fun i_t9_3 hv=>?_)
 unfold I3
 refine W.if (fun h=>?_) (fun _=>W.ex (W.rt trivial))
 try simp only [bz]at h
 refine W.bd (W.idx (by omega)) fun e6 _=>W.bd (RJ k_a0) fun r7 _=>W.lt fun b8 bb_1=>W.lt fun b9 bb_2=>W.gb (fun gg_3=>by try simp only [bb_1,bb_2,bz]at gg_3;exact W.idx (by omega)) (fun e10 _=>?_)
 refine W.gb (fun _=>US k_a1) fun r11 _=>W.lt fun b12 bb_5=>W.if (fun _=>W.ex (W.rt trivial)) (fun h=>?_)
 try simp only [bb_1,bb_2,bb_5,bz]at h
 have ww_6:Ac (i_t9_3+(1:Int))=i_t9_3+(1:Int):=Af (by omega) (by omega)
 exact W.nx (by(try dsimp only);first | omega | (and_intros<;>first | omega | assumption) | (simp;omega)) (by(try dsimp only);omega)
theorem Zh {a0:List (A0)} {a1:Ao} (k_a1:Bj a1):W (I4 a0 a1) (fun r=>True):=by
 unfold I4
 try simp only [jn]
 have:=AX (Eh k_a1)
 refine W.if (fun _=>W.rt trivial) (fun h=>?_)
 try simp only [bz]at h
 refine W.it (fun(v:Int)=>0≤v∧(v≤(a1.Objects.length:Int)∨v≤0)) (fun v=>((a1.Objects.length:Int) - v).toNat) (by omega) (by omega) (fun i_t5_4 hv=>?_)
 unfold MT
 refine W.if (fun h=>?_) (fun _=>W.ex (W.rt trivial))
 try simp only [bz]at h
 refine W.bd (W.idx (by omega)) fun e8 _=>W.bd (sv) fun r9 _=>W.lt fun b10 bb_1=>W.lt fun b11 bb_2=>W.gb (fun gg_3=>by try simp only [bb_1,bb_2,bz]at gg_3;exact W.idx (by have ww_4:Ac (i_t5_4 - (1:Int))=i_t5_4 - (1:Int):=Af (by omega) (by omega);omega)) (fun e12 _=>?_)
 refine W.lt fun b13 bb_5=>W.lt fun b14 bb_6=>W.if (fun _=>W.ex (W.rt trivial)) (fun h=>?_)
 try simp only [bb_1,bb_2,bb_5,bb_6,bz]at h
 refine W.bd (ed k_a1) fun r16 _=>W.if (fun _=>W.ex (W.rt trivial)) (fun h=>?_)
 try simp only [bb_1,bb_2,bb_5,bb_6,bz]at h
 have ww_7:Ac (i_t5_4+(1:Int))=i_t5_4+(1:Int):=Af (by omega) (by omega)
 exact W.nx (by(try dsimp only);first | omega | (and_intros<;>first | omega | assumption) | (simp;omega)) (by(try dsimp only);omega)
theorem mv {a0:Au} {a1:Au} (k_a0:Bk a0) (k_a1:Bk a1):W (Rc a0 a1) (fun r=>True):=by
 unfold Rc
 try simp only [jn]
 have:=AX (AN k_a0)
 have:=AX (AN k_a1)
 refine W.if (fun _=>W.rt trivial) (fun h=>?_)
 try simp only [bz]at h
 refine W.it (fun(v:Int)=>0≤v∧(v≤(a0.Specs.length:Int)∨v≤0)) (fun v=>((a0.Specs.length:Int) - v).toNat) (by omega) (by omega) (fun i_t5_14 hv=>?_)
 unfold Rb
 refine W.if (fun h=>?_) (fun h=>?_)
 ·try simp only [bz]at h
  refine W.bd (W.idx (by omega)) fun e18 _=>W.bd (W.idx (by omega)) fun e19 _=>W.if (fun _=>W.ex (W.rt trivial)) (fun h=>?_)
  try simp only [bz]at h
  have ww_1:Ac (i_t5_14+(1:Int))=i_t5_14+(1:Int):=Af (by omega) (by omega)
  exact W.nx (by(try dsimp only);first | omega | (and_intros<;>first | omega | assumption) | (simp;omega)) (by(try dsimp only);omega)
 ·try simp only [bz]at h
  refine W.ex ?_
  try dsimp only [Sum.elim_inl,Sum.elim_inr]
  unfold UM
  refine W.lt fun b3 bb_2=>W.gb (fun _=>Nj (Dr k_a0) (Dr k_a1)) fun r4 _=>W.lt fun b5 bb_4=>W.lt fun b6 bb_5=>W.lt fun b7 bb_6=>W.lt fun b8 bb_7=>W.lt fun b9 bb_8=>W.gb (fun _=>Yi (AB k_a0) (AB k_a1)) fun r10 _=>W.lt fun b11 bb_10=>W.lt fun b12 bb_11=>W.rt trivial
theorem eg {a0:Ah} {a1:Aq}:W (K1 a0 a1) (fun r=>True):=by
 unfold K1
 refine W.bd (Ez) fun r1 _=>W.gb (fun _=>Nl) fun r2 _=>W.lt fun b3 bb_2=>W.lt fun b4 bb_3=>W.if (fun _=>W.rt trivial) (fun h=>?_)
 try simp only [bb_2,bb_3,bz]at h
 refine W.gb (fun _=>Nl) fun r6 _=>W.lt fun b7 bb_5=>W.lt fun b8 bb_6=>W.if (fun _=>W.rt trivial) (fun h=>?_)
 try simp only [bb_2,bb_3,bb_5,bb_6,bz]at h
 refine W.bd (iW) fun r10 _=>W.bd (Nl) fun r11 _=>W.rt trivial
theorem Yj {a0:BH} (k_a0:CA a0):W (SM a0) (fun r=>True):=by
 unfold SM
 try simp only [jn]
 refine W.lt fun b1 bb_1=>W.gb (fun _=>mf) fun r2 _=>W.lt fun b3 bb_3=>W.if (fun _=>W.rt trivial) (fun h=>?_)
 try simp only [bb_1,bb_3,bz]at h
 refine W.if (fun h=>?_) (fun h=>?_)
 ·try simp only [bb_1,bb_3,bz]at h
  unfold SK
  try simp only [jn]
  refine W.if (fun h=>?_) (fun h=>?_)
  ·try simp only [bb_1,bb_3,bz]at h
   refine W.bd (UR) fun r8 q_r8=>W.rt trivial
  ·try simp only [bb_1,bb_3,bz]at h
   refine W.if (fun h=>?_) (fun h=>?_)
   ·try simp only [bb_1,bb_3,bz]at h
    unfold Ig
    try simp only [jn]
    refine W.if (fun h=>?_) (fun h=>?_)
    ·try simp only [bb_1,bb_3,bz]at h
     refine W.bd (D6 (CR k_a0)) (fun r12 q_r12=>?_)
     replace q_r12:r12=true→a0.Sub.length≤32:=q_r12
     have:=AL (CR k_a0)
     exact W.rt trivial
    ·try simp only [bb_1,bb_3,bz]at h
     refine W.if (fun h=>?_) (fun h=>?_)
     ·try simp only [bb_1,bb_3,bz]at h
      refine W.lt fun b14 bb_4=>W.rt trivial
     ·try simp only [bb_1,bb_3,bz]at h
      refine W.if (fun h=>?_) (fun h=>?_)
      ·try simp only [bb_1,bb_3,bz]at h
       refine W.lt fun b16 bb_5=>W.rt trivial
      ·try simp only [bb_1,bb_3,bz]at h
       refine W.if (fun h=>?_) (fun h=>?_)
       ·try simp only [bb_1,bb_3,bz]at h
        unfold Db
        refine W.if (fun h=>?_) (fun h=>?_)
        ·try simp only [bb_1,bb_3,bz]at h
         refine W.lt fun b20 bb_6=>W.rt trivial
        ·try simp only [bb_1,bb_3,bz]at h
         refine W.if (fun h=>?_) (fun h=>?_)
         ·try simp only [bb_1,bb_3,bz]at h
          refine W.bd (BJ (Ba k_a0)) (fun r22 q_r22=>?_)
          replace q_r22:r22=true→0≤a0.Filter.Zone∧a0.Filter.Zone≤5∧0≤a0.Filter.Who∧a0.Filter.Who≤2∧0≤a0.Filter.Self∧a0.Filter.Self≤2∧0≤a0.Filter.Tap∧a0.Filter.Tap≤2∧0≤a0.Filter.Power.Kind∧a0.Filter.Power.Kind≤3∧0≤a0.Filter.Tough.Kind∧a0.Filter.Tough.Kind≤3∧0≤a0.Filter.Value.Kind∧a0.Filter.Value.Kind≤3∧a0.Filter.Sub.length≤32:=q_r22
          have:=AL (Av (Ba k_a0))
          exact W.rt trivial
         ·try simp only [bb_1,bb_3,bz]at h
          refine W.if (fun h=>?_) (fun h=>?_)
          ·try simp only [bb_1,bb_3,bz]at h
           refine W.lt fun b24 bb_7=>W.lt fun b25 bb_8=>W.lt fun b26 bb_9=>W.rt trivial
          ·try simp only [bb_1,bb_3,bz]at h
           refine W.if (fun h=>?_) (fun _=>W.rt trivial)
           try simp only [bb_1,bb_3,bz]at h
           refine W.lt fun b28 bb_10=>W.lt fun b29 bb_11=>W.lt fun b30 bb_12=>W.rt trivial
       ·try simp only [bb_1,bb_3,bz]at h
        unfold Db
        refine W.if (fun h=>?_) (fun h=>?_)
        ·try simp only [bb_1,bb_3,bz]at h
         refine W.lt fun b20 bb_13=>W.rt trivial
        ·try simp only [bb_1,bb_3,bz]at h
         refine W.if (fun h=>?_) (fun h=>?_)
         ·try simp only [bb_1,bb_3,bz]at h
          refine W.bd (BJ (Ba k_a0)) (fun r22 q_r22=>?_)
          replace q_r22:r22=true→0≤a0.Filter.Zone∧a0.Filter.Zone≤5∧0≤a0.Filter.Who∧a0.Filter.Who≤2∧0≤a0.Filter.Self∧a0.Filter.Self≤2∧0≤a0.Filter.Tap∧a0.Filter.Tap≤2∧0≤a0.Filter.Power.Kind∧a0.Filter.Power.Kind≤3∧0≤a0.Filter.Tough.Kind∧a0.Filter.Tough.Kind≤3∧0≤a0.Filter.Value.Kind∧a0.Filter.Value.Kind≤3∧a0.Filter.Sub.length≤32:=q_r22
          have:=AL (Av (Ba k_a0))
          exact W.rt trivial
         ·try simp only [bb_1,bb_3,bz]at h
          refine W.if (fun h=>?_) (fun h=>?_)
          ·try simp only [bb_1,bb_3,bz]at h
           refine W.lt fun b24 bb_14=>W.lt fun b25 bb_15=>W.lt fun b26 bb_16=>W.rt trivial
          ·try simp only [bb_1,bb_3,bz]at h
           refine W.if (fun h=>?_) (fun _=>W.rt trivial)
           try simp only [bb_1,bb_3,bz]at h
           refine W.lt fun b28 bb_17=>W.lt fun b29 bb_18=>W.lt fun b30 bb_19=>W.rt trivial
   ·try simp only [bb_1,bb_3,bz]at h
    unfold Ig
    try simp only [jn]
    refine W.if (fun h=>?_) (fun h=>?_)
    ·try simp only [bb_1,bb_3,bz]at h
     refine W.bd (D6 (CR k_a0)) (fun r12 q_r12=>?_)
     replace q_r12:r12=true→a0.Sub.length≤32:=q_r12
     have:=AL (CR k_a0)
     exact W.rt trivial
    ·try simp only [bb_1,bb_3,bz]at h
     refine W.if (fun h=>?_) (fun h=>?_)
     ·try simp only [bb_1,bb_3,bz]at h
      refine W.lt fun b14 bb_20=>W.rt trivial
     ·try simp only [bb_1,bb_3,bz]at h
      refine W.if (fun h=>?_) (fun h=>?_)
      ·try simp only [bb_1,bb_3,bz]at h
       refine W.lt fun b16 bb_21=>W.rt trivial
      ·try simp only [bb_1,bb_3,bz]at h
       refine W.if (fun h=>?_) (fun h=>?_)
       ·try simp only [bb_1,bb_3,bz]at h
        unfold Db
        refine W.if (fun h=>?_) (fun h=>?_)
        ·try simp only [bb_1,bb_3,bz]at h
         refine W.lt fun b20 bb_22=>W.rt trivial
        ·try simp only [bb_1,bb_3,bz]at h
         refine W.if (fun h=>?_) (fun h=>?_)
         ·try simp only [bb_1,bb_3,bz]at h
          refine W.bd (BJ (Ba k_a0)) (fun r22 q_r22=>?_)
          replace q_r22:r22=true→0≤a0.Filter.Zone∧a0.Filter.Zone≤5∧0≤a0.Filter.Who∧a0.Filter.Who≤2∧0≤a0.Filter.Self∧a0.Filter.Self≤2∧0≤a0.Filter.Tap∧a0.Filter.Tap≤2∧0≤a0.Filter.Power.Kind∧a0.Filter.Power.Kind≤3∧0≤a0.Filter.Tough.Kind∧a0.Filter.Tough.Kind≤3∧0≤a0.Filter.Value.Kind∧a0.Filter.Value.Kind≤3∧a0.Filter.Sub.length≤32:=q_r22
          have:=AL (Av (Ba k_a0))
          exact W.rt trivial
         ·try simp only [bb_1,bb_3,bz]at h
          refine W.if (fun h=>?_) (fun h=>?_)
          ·try simp only [bb_1,bb_3,bz]at h
           refine W.lt fun b24 bb_23=>W.lt fun b25 bb_24=>W.lt fun b26 bb_25=>W.rt trivial
          ·try simp only [bb_1,bb_3,bz]at h
           refine W.if (fun h=>?_) (fun _=>W.rt trivial)
           try simp only [bb_1,bb_3,bz]at h
           refine W.lt fun b28 bb_26=>W.lt fun b29 bb_27=>W.lt fun b30 bb_28=>W.rt trivial
       ·try simp only [bb_1,bb_3,bz]at h
        unfold Db
        refine W.if (fun h=>?_) (fun h=>?_)
        ·try simp only [bb_1,bb_3,bz]at h
         refine W.lt fun b20 bb_29=>W.rt trivial
        ·try simp only [bb_1,bb_3,bz]at h
         refine W.if (fun h=>?_) (fun h=>?_)
         ·try simp only [bb_1,bb_3,bz]at h
          refine W.bd (BJ (Ba k_a0)) (fun r22 q_r22=>?_)
          replace q_r22:r22=true→0≤a0.Filter.Zone∧a0.Filter.Zone≤5∧0≤a0.Filter.Who∧a0.Filter.Who≤2∧0≤a0.Filter.Self∧a0.Filter.Self≤2∧0≤a0.Filter.Tap∧a0.Filter.Tap≤2∧0≤a0.Filter.Power.Kind∧a0.Filter.Power.Kind≤3∧0≤a0.Filter.Tough.Kind∧a0.Filter.Tough.Kind≤3∧0≤a0.Filter.Value.Kind∧a0.Filter.Value.Kind≤3∧a0.Filter.Sub.length≤32:=q_r22
          have:=AL (Av (Ba k_a0))
          exact W.rt trivial
         ·try simp only [bb_1,bb_3,bz]at h
          refine W.if (fun h=>?_) (fun h=>?_)
          ·try simp only [bb_1,bb_3,bz]at h
           refine W.lt fun b24 bb_30=>W.lt fun b25 bb_31=>W.lt fun b26 bb_32=>W.rt trivial
          ·try simp only [bb_1,bb_3,bz]at h
           refine W.if (fun h=>?_) (fun _=>W.rt trivial)
           try simp only [bb_1,bb_3,bz]at h
           refine W.lt fun b28 bb_33=>W.lt fun b29 bb_34=>W.lt fun b30 bb_35=>W.rt trivial
 ·try simp only [bb_1,bb_3,bz]at h
  unfold SK
  try simp only [jn]
  refine W.if (fun h=>?_) (fun h=>?_)
  ·try simp only [bb_1,bb_3,bz]at h
   refine W.bd (UR) fun r8 q_r8=>W.rt trivial
  ·try simp only [bb_1,bb_3,bz]at h
   refine W.if (fun h=>?_) (fun h=>?_)
   ·try simp only [bb_1,bb_3,bz]at h
    unfold Ig
    try simp only [jn]
    refine W.if (fun h=>?_) (fun h=>?_)
    ·try simp only [bb_1,bb_3,bz]at h
     refine W.bd (D6 (CR k_a0)) (fun r12 q_r12=>?_)
     replace q_r12:r12=true→a0.Sub.length≤32:=q_r12
     have:=AL (CR k_a0)
     exact W.rt trivial
    ·try simp only [bb_1,bb_3,bz]at h
     refine W.if (fun h=>?_) (fun h=>?_)
     ·try simp only [bb_1,bb_3,bz]at h
      refine W.lt fun b14 bb_36=>W.rt trivial
     ·try simp only [bb_1,bb_3,bz]at h
      refine W.if (fun h=>?_) (fun h=>?_)
      ·try simp only [bb_1,bb_3,bz]at h
       refine W.lt fun b16 bb_37=>W.rt trivial
      ·try simp only [bb_1,bb_3,bz]at h
       refine W.if (fun h=>?_) (fun h=>?_)
       ·try simp only [bb_1,bb_3,bz]at h
        unfold Db
        refine W.if (fun h=>?_) (fun h=>?_)
        ·try simp only [bb_1,bb_3,bz]at h
         refine W.lt fun b20 bb_38=>W.rt trivial
        ·try simp only [bb_1,bb_3,bz]at h
         refine W.if (fun h=>?_) (fun h=>?_)
         ·try simp only [bb_1,bb_3,bz]at h
          refine W.bd (BJ (Ba k_a0)) (fun r22 q_r22=>?_)
          replace q_r22:r22=true→0≤a0.Filter.Zone∧a0.Filter.Zone≤5∧0≤a0.Filter.Who∧a0.Filter.Who≤2∧0≤a0.Filter.Self∧a0.Filter.Self≤2∧0≤a0.Filter.Tap∧a0.Filter.Tap≤2∧0≤a0.Filter.Power.Kind∧a0.Filter.Power.Kind≤3∧0≤a0.Filter.Tough.Kind∧a0.Filter.Tough.Kind≤3∧0≤a0.Filter.Value.Kind∧a0.Filter.Value.Kind≤3∧a0.Filter.Sub.length≤32:=q_r22
          have:=AL (Av (Ba k_a0))
          exact W.rt trivial
         ·try simp only [bb_1,bb_3,bz]at h
          refine W.if (fun h=>?_) (fun h=>?_)
          ·try simp only [bb_1,bb_3,bz]at h
           refine W.lt fun b24 bb_39=>W.lt fun b25 bb_40=>W.lt fun b26 bb_41=>W.rt trivial
          ·try simp only [bb_1,bb_3,bz]at h
           refine W.if (fun h=>?_) (fun _=>W.rt trivial)
           try simp only [bb_1,bb_3,bz]at h
           refine W.lt fun b28 bb_42=>W.lt fun b29 bb_43=>W.lt fun b30 bb_44=>W.rt trivial
       ·try simp only [bb_1,bb_3,bz]at h
        unfold Db
        refine W.if (fun h=>?_) (fun h=>?_)
        ·try simp only [bb_1,bb_3,bz]at h
         refine W.lt fun b20 bb_45=>W.rt trivial
        ·try simp only [bb_1,bb_3,bz]at h
         refine W.if (fun h=>?_) (fun h=>?_)
         ·try simp only [bb_1,bb_3,bz]at h
          refine W.bd (BJ (Ba k_a0)) (fun r22 q_r22=>?_)
          replace q_r22:r22=true→0≤a0.Filter.Zone∧a0.Filter.Zone≤5∧0≤a0.Filter.Who∧a0.Filter.Who≤2∧0≤a0.Filter.Self∧a0.Filter.Self≤2∧0≤a0.Filter.Tap∧a0.Filter.Tap≤2∧0≤a0.Filter.Power.Kind∧a0.Filter.Power.Kind≤3∧0≤a0.Filter.Tough.Kind∧a0.Filter.Tough.Kind≤3∧0≤a0.Filter.Value.Kind∧a0.Filter.Value.Kind≤3∧a0.Filter.Sub.length≤32:=q_r22
          have:=AL (Av (Ba k_a0))
          exact W.rt trivial
         ·try simp only [bb_1,bb_3,bz]at h
          refine W.if (fun h=>?_) (fun h=>?_)
          ·try simp only [bb_1,bb_3,bz]at h
           refine W.lt fun b24 bb_46=>W.lt fun b25 bb_47=>W.lt fun b26 bb_48=>W.rt trivial
          ·try simp only [bb_1,bb_3,bz]at h
           refine W.if (fun h=>?_) (fun _=>W.rt trivial)
           try simp only [bb_1,bb_3,bz]at h
           refine W.lt fun b28 bb_49=>W.lt fun b29 bb_50=>W.lt fun b30 bb_51=>W.rt trivial
   ·try simp only [bb_1,bb_3,bz]at h
    unfold Ig
    try simp only [jn]
    refine W.if (fun h=>?_) (fun h=>?_)
    ·try simp only [bb_1,bb_3,bz]at h
     refine W.bd (D6 (CR k_a0)) (fun r12 q_r12=>?_)
     replace q_r12:r12=true→a0.Sub.length≤32:=q_r12
     have:=AL (CR k_a0)
     exact W.rt trivial
    ·try simp only [bb_1,bb_3,bz]at h
     refine W.if (fun h=>?_) (fun h=>?_)
     ·try simp only [bb_1,bb_3,bz]at h
      refine W.lt fun b14 bb_52=>W.rt trivial
     ·try simp only [bb_1,bb_3,bz]at h
      refine W.if (fun h=>?_) (fun h=>?_)
      ·try simp only [bb_1,bb_3,bz]at h
       refine W.lt fun b16 bb_53=>W.rt trivial
      ·try simp only [bb_1,bb_3,bz]at h
       refine W.if (fun h=>?_) (fun h=>?_)
       ·try simp only [bb_1,bb_3,bz]at h
        unfold Db
        refine W.if (fun h=>?_) (fun h=>?_)
        ·try simp only [bb_1,bb_3,bz]at h
         refine W.lt fun b20 bb_54=>W.rt trivial
        ·try simp only [bb_1,bb_3,bz]at h
         refine W.if (fun h=>?_) (fun h=>?_)
         ·try simp only [bb_1,bb_3,bz]at h
          refine W.bd (BJ (Ba k_a0)) (fun r22 q_r22=>?_)
          replace q_r22:r22=true→0≤a0.Filter.Zone∧a0.Filter.Zone≤5∧0≤a0.Filter.Who∧a0.Filter.Who≤2∧0≤a0.Filter.Self∧a0.Filter.Self≤2∧0≤a0.Filter.Tap∧a0.Filter.Tap≤2∧0≤a0.Filter.Power.Kind∧a0.Filter.Power.Kind≤3∧0≤a0.Filter.Tough.Kind∧a0.Filter.Tough.Kind≤3∧0≤a0.Filter.Value.Kind∧a0.Filter.Value.Kind≤3∧a0.Filter.Sub.length≤32:=q_r22
          have:=AL (Av (Ba k_a0))
          exact W.rt trivial
         ·try simp only [bb_1,bb_3,bz]at h
          refine W.if (fun h=>?_) (fun h=>?_)
          ·try simp only [bb_1,bb_3,bz]at h
           refine W.lt fun b24 bb_55=>W.lt fun b25 bb_56=>W.lt fun b26 bb_57=>W.rt trivial
          ·try simp only [bb_1,bb_3,bz]at h
           refine W.if (fun h=>?_) (fun _=>W.rt trivial)
           try simp only [bb_1,bb_3,bz]at h
           refine W.lt fun b28 bb_58=>W.lt fun b29 bb_59=>W.lt fun b30 bb_60=>W.rt trivial
       ·try simp only [bb_1,bb_3,bz]at h
        unfold Db
        refine W.if (fun h=>?_) (fun h=>?_)
        ·try simp only [bb_1,bb_3,bz]at h
         refine W.lt fun b20 bb_61=>W.rt trivial
        ·try simp only [bb_1,bb_3,bz]at h
         refine W.if (fun h=>?_) (fun h=>?_)
         ·try simp only [bb_1,bb_3,bz]at h
          refine W.bd (BJ (Ba k_a0)) (fun r22 q_r22=>?_)
          replace q_r22:r22=true→0≤a0.Filter.Zone∧a0.Filter.Zone≤5∧0≤a0.Filter.Who∧a0.Filter.Who≤2∧0≤a0.Filter.Self∧a0.Filter.Self≤2∧0≤a0.Filter.Tap∧a0.Filter.Tap≤2∧0≤a0.Filter.Power.Kind∧a0.Filter.Power.Kind≤3∧0≤a0.Filter.Tough.Kind∧a0.Filter.Tough.Kind≤3∧0≤a0.Filter.Value.Kind∧a0.Filter.Value.Kind≤3∧a0.Filter.Sub.length≤32:=q_r22
          have:=AL (Av (Ba k_a0))
          exact W.rt trivial
         ·try simp only [bb_1,bb_3,bz]at h
          refine W.if (fun h=>?_) (fun h=>?_)
          ·try simp only [bb_1,bb_3,bz]at h
           refine W.lt fun b24 bb_62=>W.lt fun b25 bb_63=>W.lt fun b26 bb_64=>W.rt trivial
          ·try simp only [bb_1,bb_3,bz]at h
           refine W.if (fun h=>?_) (fun _=>W.rt trivial)
           try simp only [bb_1,bb_3,bz]at h
           refine W.lt fun b28 bb_65=>W.lt fun b29 bb_66=>W.lt fun b30 bb_67=>W.rt trivial
theorem Nn {l7_38:List (List UInt8)} (k_l7_38:B3 16 Fq l7_38) (p_0:l7_38.length≤49) (p_1: ∀ y∈l7_38,y.length≤600):W (K2 l7_38) (fun r=>r.length≤31000):=by
 unfold K2
 have:=AX k_l7_38
 refine W.if (fun h=>?_) (fun h=>?_)
 ·try simp only [bz]at h
  refine W.rt ?_
  have ll_1:ny.length=3:=rfl
  first | assumption | omega | (simp only [bz];omega) | (simp only [bz];intros;omega) | (intros;simp only [bz]at *;omega) | exact⟨by simp,by simp⟩ | decide | simp_all
 ·try simp only [bz]at h
  have ll_2:cF.length=1:=rfl
  refine W.bd (mg k_l7_38 (by unfold Fq;omega) (by first | assumption | omega | exact Ae _ | (simp;done) | (simp;omega)) (by first | assumption | omega | exact Ae _ | (simp;done) | (simp;omega)) (by first | assumption | omega | exact Ae _ | (simp;done) | (simp;omega))) (fun r41 q_r41=>?_)
  replace q_r41:r41.length≤30500:=q_r41
  refine W.rt ?_
  first | assumption | omega | (simp only [bz];omega) | (simp only [bz];intros;omega) | (intros;simp only [bz]at *;omega) | exact⟨by simp,by simp⟩ | decide | simp_all
theorem No {a0:Aq} {l7_35:List (List UInt8)} (k_l7_35:B3 16 Fq l7_35) (p_0:0≤a0.Zone∧a0.Zone≤5∧0≤a0.Who∧a0.Who≤2∧0≤a0.Self∧a0.Self≤2∧0≤a0.Tap∧a0.Tap≤2∧0≤a0.Power.Kind∧a0.Power.Kind≤3∧0≤a0.Tough.Kind∧a0.Tough.Kind≤3∧0≤a0.Value.Kind∧a0.Value.Kind≤3∧a0.Sub.length≤32) (p_1:l7_35.length≤48) (p_2: ∀ y∈l7_35,y.length≤600):W (K3 a0 l7_35) (fun r=>r.length≤31000):=by
 unfold K3
 try simp only [jn]
 have ll_1:aW.length=5:=rfl
 refine W.bd (GS (by unfold Fq;omega) (by first | assumption | omega | exact Ae _ | (simp;done) | (simp;omega)) (by first | assumption | omega | exact Ae _ | (simp;done) | (simp;omega))) (fun r37 q_r37=>?_)
 replace q_r37:r37.length≤100:=q_r37
 refine W.if (fun h=>?_) (fun h=>?_)
 ·try simp only [bz]at h
  have:=AX k_l7_35
  exact Nn k_l7_35 (by first | assumption | omega | exact Ae _ | (simp;done) | (simp;omega)) (by first | assumption | omega | exact Ae _ | (simp;done) | (simp;omega))
 ·try simp only [bz]at h
  have:=AX k_l7_35
  have ll_3:([r37]:List (List UInt8)).length =1:=rfl
  refine W.bd (W.app (by first | omega | (simp;omega)) (by unfold maxLen;first | omega | (simp;omega))) (fun l43 q_l43=>?_)
  have ll_4:l43.length=(l7_35).length +([r37]:List (List UInt8)).length :=by rw [q_l43,List.length_append]
  have aa_5: ∀ y∈l43,y.length≤600:=by rw [q_l43];exact D9 p_2 (Ea (by omega))
  exact Nn (BS (by assumption) (by omega) (by omega)) (by first | assumption | omega | exact Ae _ | (simp;done) | (simp;omega)) (by first | assumption | omega | exact Ae _ | (simp;done) | (simp;omega))
theorem Np {a0:Aq} {l7_32:List (List UInt8)} (k_a0:AZ a0) (k_l7_32:B3 16 Fq l7_32) (p_0:0≤a0.Zone∧a0.Zone≤5∧0≤a0.Who∧a0.Who≤2∧0≤a0.Self∧a0.Self≤2∧0≤a0.Tap∧a0.Tap≤2∧0≤a0.Power.Kind∧a0.Power.Kind≤3∧0≤a0.Tough.Kind∧a0.Tough.Kind≤3∧0≤a0.Value.Kind∧a0.Value.Kind≤3∧a0.Sub.length≤32) (p_1:l7_32.length≤47) (p_2: ∀ y∈l7_32,y.length≤600):W (K4 a0 l7_32) (fun r=>r.length≤31000):=by
 unfold K4
 try simp only [jn]
 have ll_1:aV.length=5:=rfl
 refine W.bd (GS (by unfold Fq;omega) (by first | assumption | omega | exact Ae _ | (simp;done) | (simp;omega)) (by first | assumption | omega | exact Ae _ | (simp;done) | (simp;omega))) (fun r34 q_r34=>?_)
 replace q_r34:r34.length≤100:=q_r34
 refine W.if (fun h=>?_) (fun h=>?_)
 ·try simp only [bz]at h
  have:=AL (Av k_a0)
  have:=AX k_l7_32
  exact No k_l7_32 (by first | assumption | omega | exact Ae _ | (simp;done) | (simp;omega)) (by first | assumption | omega | exact Ae _ | (simp;done) | (simp;omega)) (by first | assumption | omega | exact Ae _ | (simp;done) | (simp;omega))
 ·try simp only [bz]at h
  have:=AX k_l7_32
  have ll_3:([r34]:List (List UInt8)).length =1:=rfl
  refine W.bd (W.app (by first | omega | (simp;omega)) (by unfold maxLen;first | omega | (simp;omega))) (fun l45 q_l45=>?_)
  have ll_4:l45.length=(l7_32).length +([r34]:List (List UInt8)).length :=by rw [q_l45,List.length_append]
  have aa_5: ∀ y∈l45,y.length≤600:=by rw [q_l45];exact D9 p_2 (Ea (by omega))
  have:=AL (Av k_a0)
  exact No (BS (by assumption) (by omega) (by omega)) (by first | assumption | omega | exact Ae _ | (simp;done) | (simp;omega)) (by first | assumption | omega | exact Ae _ | (simp;done) | (simp;omega)) (by first | assumption | omega | exact Ae _ | (simp;done) | (simp;omega))
theorem Nq {a0:Aq} {l7_29:List (List UInt8)} (k_a0:AZ a0) (k_l7_29:B3 16 Fq l7_29) (p_0:0≤a0.Zone∧a0.Zone≤5∧0≤a0.Who∧a0.Who≤2∧0≤a0.Self∧a0.Self≤2∧0≤a0.Tap∧a0.Tap≤2∧0≤a0.Power.Kind∧a0.Power.Kind≤3∧0≤a0.Tough.Kind∧a0.Tough.Kind≤3∧0≤a0.Value.Kind∧a0.Value.Kind≤3∧a0.Sub.length≤32) (p_1:l7_29.length≤46) (p_2: ∀ y∈l7_29,y.length≤600):W (K5 a0 l7_29) (fun r=>r.length≤31000):=by
 unfold K5
 try simp only [jn]
 have ll_1:aR.length=5:=rfl
 refine W.bd (GS (by unfold Fq;omega) (by first | assumption | omega | exact Ae _ | (simp;done) | (simp;omega)) (by first | assumption | omega | exact Ae _ | (simp;done) | (simp;omega))) (fun r31 q_r31=>?_)
 replace q_r31:r31.length≤100:=q_r31
 refine W.if (fun h=>?_) (fun h=>?_)
 ·try simp only [bz]at h
  have:=AL (Av k_a0)
  have:=AX k_l7_29
  exact Np k_a0 k_l7_29 (by first | assumption | omega | exact Ae _ | (simp;done) | (simp;omega)) (by first | assumption | omega | exact Ae _ | (simp;done) | (simp;omega)) (by first | assumption | omega | exact Ae _ | (simp;done) | (simp;omega))
 ·try simp only [bz]at h
  have:=AX k_l7_29
  have ll_3:([r31]:List (List UInt8)).length =1:=rfl
  refine W.bd (W.app (by first | omega | (simp;omega)) (by unfold maxLen;first | omega | (simp;omega))) (fun l47 q_l47=>?_)
  have ll_4:l47.length=(l7_29).length +([r31]:List (List UInt8)).length :=by rw [q_l47,List.length_append]
  have aa_5: ∀ y∈l47,y.length≤600:=by rw [q_l47];exact D9 p_2 (Ea (by omega))
  have:=AL (Av k_a0)
  exact Np k_a0 (BS (by assumption) (by omega) (by omega)) (by first | assumption | omega | exact Ae _ | (simp;done) | (simp;omega)) (by first | assumption | omega | exact Ae _ | (simp;done) | (simp;omega)) (by first | assumption | omega | exact Ae _ | (simp;done) | (simp;omega))
theorem Nr {a0:Aq} {r6:List (List UInt8)} {l7_24:List (List UInt8)} (k_a0:AZ a0) (k_r6:B3 16 Fq r6) (p_0:0≤a0.Zone∧a0.Zone≤5∧0≤a0.Who∧a0.Who≤2∧0≤a0.Self∧a0.Self≤2∧0≤a0.Tap∧a0.Tap≤2∧0≤a0.Power.Kind∧a0.Power.Kind≤3∧0≤a0.Tough.Kind∧a0.Tough.Kind≤3∧0≤a0.Value.Kind∧a0.Value.Kind≤3∧a0.Sub.length≤32) (p_1:l7_24.length≤27) (p_2: ∀ y∈l7_24,y.length≤600) (p_3:r6.length=3) (p_4: ∀ y∈r6,y.length≤40):W (K8 a0 r6 l7_24) (fun r=>r.length≤31000):=by
 unfold K8
 try simp only [jn]
 refine W.it (fun(v:Int×(List (List UInt8)))=>0≤v.1∧v.1≤17∧(v.2.length:Int)≤27+v.1∧ ∀ y∈v.2,y.length≤600) (fun v=>(17 - v.1).toNat) ?_ ?_ (fun v hv=>?_)
 ·(try dsimp only);first | omega | (simp;omega) | (and_intros<;>first | omega | assumption | (simp;omega) | simp)
 ·(try dsimp only);first | omega | (simp;omega) | (and_intros<;>first | omega | assumption | (simp;omega) | simp)
 ·obtain⟨vt12_53,l7_54⟩:=v
  replace hv:0≤vt12_53∧vt12_53≤17∧(l7_54.length:Int)≤27+vt12_53∧ ∀ y∈l7_54,y.length≤600:=hv
  obtain⟨vv_1,vv_2,vv_3,vv_4⟩:=hv
  show W (K7 a0 vt12_53 l7_54) _
  unfold K7
  try simp only [jn]
  refine W.if (fun h=>?_) (fun h=>?_)
  ·try simp only [bz]at h
   refine W.bd (Kj (by first | assumption | omega | exact Ae _ | (simp;done) | (simp;omega))) fun r60 _=>W.if (fun h=>?_) (fun h=>?_)
   ·try simp only [bz]at h
    refine W.bd (PI) (fun r62 q_r62=>?_)
    replace q_r62:r62.length≤40:=q_r62
    have ll_5:SB.length=5:=rfl
    refine W.bd (W.cat (by first | omega | (simp;omega))) (fun s63 q_s63=>?_)
    replace q_s63:s63.length=(SB).length +(r62).length :=q_s63.2
    have ll_6:([s63]:List (List UInt8)).length =1:=rfl
    refine W.bd (W.app (by first | omega | (simp;omega)) (by unfold maxLen;first | omega | (simp;omega))) (fun l64 q_l64=>?_)
    have ll_7:l64.length=(l7_54).length +([s63]:List (List UInt8)).length :=by rw [q_l64,List.length_append]
    have aa_8: ∀ y∈l64,y.length≤600:=by rw [q_l64];exact D9 vv_4 (Ea (by omega))
    unfold K6
    have ww_9:Ac (vt12_53+(1:Int))=vt12_53+(1:Int):=Af (by omega) (by omega)
    exact W.nx (by(try dsimp only);first | omega | (and_intros<;>first | omega | assumption) | (simp;omega)) (by(try dsimp only);omega)
   ·try simp only [bz]at h
    unfold K6
    have ww_10:Ac (vt12_53+(1:Int))=vt12_53+(1:Int):=Af (by omega) (by omega)
    exact W.nx (by(try dsimp only);first | omega | (and_intros<;>first | omega | assumption) | (simp;omega)) (by(try dsimp only);omega)
  ·try simp only [bz]at h
   refine W.ex ?_
   try dsimp only [Sum.elim_inl,Sum.elim_inr]
   unfold Ri
   try simp only [jn]
   have:=AX k_r6
   refine W.bd (W.idx (by omega)) (fun e28 q_e28=>?_)
   have ll_11:=p_4 e28 q_e28.1
   refine W.if (fun h=>?_) (fun h=>?_)
   ·try simp only [bz]at h
    have:=AL (Av k_a0)
    exact Nq k_a0 (BS (by assumption) (by omega) (by omega)) (by first | assumption | omega | exact Ae _ | (simp;done) | (simp;omega)) (by first | assumption | omega | exact Ae _ | (simp;done) | (simp;omega)) (by first | assumption | omega | exact Ae _ | (simp;done) | (simp;omega))
   ·try simp only [bz]at h
    have ll_13:([e28]:List (List UInt8)).length =1:=rfl
    refine W.bd (W.app (by first | omega | (simp;omega)) (by unfold maxLen;first | omega | (simp;omega))) (fun l49 q_l49=>?_)
    have ll_14:l49.length=(l7_54).length +([e28]:List (List UInt8)).length :=by rw [q_l49,List.length_append]
    have aa_15: ∀ y∈l49,y.length≤600:=by rw [q_l49];exact D9 vv_4 (Ea (by omega))
    have:=AL (Av k_a0)
    exact Nq k_a0 (BS (by assumption) (by omega) (by omega)) (by first | assumption | omega | exact Ae _ | (simp;done) | (simp;omega)) (by first | assumption | omega | exact Ae _ | (simp;done) | (simp;omega)) (by first | assumption | omega | exact Ae _ | (simp;done) | (simp;omega))
theorem Yk {a0:Aq} {r6:List (List UInt8)} {l7_22:List (List UInt8)} (k_a0:AZ a0) (k_r6:B3 16 Fq r6) (k_l7_22:B3 16 Fq l7_22) (p_0:0≤a0.Zone∧a0.Zone≤5∧0≤a0.Who∧a0.Who≤2∧0≤a0.Self∧a0.Self≤2∧0≤a0.Tap∧a0.Tap≤2∧0≤a0.Power.Kind∧a0.Power.Kind≤3∧0≤a0.Tough.Kind∧a0.Tough.Kind≤3∧0≤a0.Value.Kind∧a0.Value.Kind≤3∧a0.Sub.length≤32) (p_1:l7_22.length≤26) (p_2: ∀ y∈l7_22,y.length≤600) (p_3:r6.length=3) (p_4: ∀ y∈r6,y.length≤40):W (K9 a0 r6 l7_22) (fun r=>r.length≤31000):=by
 unfold K9
 try simp only [jn]
 refine W.if (fun h=>?_) (fun h=>?_)
 ·try simp only [bz]at h
  have:=AL (Av k_a0)
  have ll_1:Ji.length=4:=rfl
  refine W.bd (W.cat (by first | omega | (simp;omega))) (fun s66 q_s66=>?_)
  replace q_s66:s66.length=(Ji).length +(a0.Sub).length :=q_s66.2
  have:=AX k_l7_22
  have ll_2:([s66]:List (List UInt8)).length =1:=rfl
  refine W.bd (W.app (by first | omega | (simp;omega)) (by unfold maxLen;first | omega | (simp;omega))) (fun l67 q_l67=>?_)
  have ll_3:l67.length=(l7_22).length +([s66]:List (List UInt8)).length :=by rw [q_l67,List.length_append]
  have aa_4: ∀ y∈l67,y.length≤600:=by rw [q_l67];exact D9 p_2 (Ea (by omega))
  have:=AX k_r6
  exact Nr k_a0 k_r6 (by first | assumption | omega | exact Ae _ | (simp;done) | (simp;omega)) (by first | assumption | omega | exact Ae _ | (simp;done) | (simp;omega)) (by first | assumption | omega | exact Ae _ | (simp;done) | (simp;omega)) (by first | assumption | omega | exact Ae _ | (simp;done) | (simp;omega)) (by first | assumption | omega | exact Ae _ | (simp;done) | (simp;omega))
 ·try simp only [bz]at h
  have:=AL (Av k_a0)
  have:=AX k_l7_22
  have:=AX k_r6
  exact Nr k_a0 k_r6 (by first | assumption | omega | exact Ae _ | (simp;done) | (simp;omega)) (by first | assumption | omega | exact Ae _ | (simp;done) | (simp;omega)) (by first | assumption | omega | exact Ae _ | (simp;done) | (simp;omega)) (by first | assumption | omega | exact Ae _ | (simp;done) | (simp;omega)) (by first | assumption | omega | exact Ae _ | (simp;done) | (simp;omega))
end Go.PL
