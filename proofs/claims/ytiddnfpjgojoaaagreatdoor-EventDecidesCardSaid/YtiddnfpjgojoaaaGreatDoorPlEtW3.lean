/- Functions that answer: proofs. -/
import Derived.Test.YtiddnfpjgojoaaaGreatDoorPlEdB
import Derived.Test.YtiddnfpjgojoaaaGreatDoorPlEdF10
import Derived.Test.YtiddnfpjgojoaaaGreatDoorPlEdF6
import Derived.Test.YtiddnfpjgojoaaaGreatDoorPlEdF8
import Derived.Test.YtiddnfpjgojoaaaGreatDoorPlEtL
import Derived.Test.YtiddnfpjgojoaaaGreatDoorPlEtW0
import Derived.Test.YtiddnfpjgojoaaaGreatDoorPlEtW1
import Derived.Test.YtiddnfpjgojoaaaGreatDoorPlEtW2
namespace Go.PL
open Go
set_option maxRecDepth 100000
set_option linter.all false
set_option maxHeartbeats 2000000
theorem Yy {a0:List (AV)} {a1:List (AV)} (k_a0:B5 560 BN a0) (k_a1:B5 560 BN a1):W (Hg a0 a1) (fun r=>True):=by
 unfold Hg
 try simp only [jn]
 have:=AY k_a0
 have:=AY k_a1
 refine W.if (fun _=>W.rt trivial) (fun h=>?_)
 try simp only [bz]at h
 refine W.it (fun(v:Int)=>0≤v∧(v≤(a0.length:Int)∨v≤0)) (fun v=>((a0.length:Int) - v).toNat) (by omega) (by omega) (fun i_t5_4 hv=>?_)
 unfold LU
 refine W.if (fun h=>?_) (fun _=>W.ex (W.rt trivial))
 try simp only [bz]at h
 refine W.bd (W.idx (by omega)) fun e8 q_e8=>W.bd (W.idx (by omega)) fun e9 q_e9=>W.bd (mI (show BN e8 from Bp k_a0 q_e8.1) (show BN e9 from Bp k_a1 q_e9.1)) fun r10 _=>W.if (fun _=>W.ex (W.rt trivial)) (fun h=>?_)
 try simp only [bz]at h
 have ww_1:Ac (i_t5_4+(1:Int))=i_t5_4+(1:Int):=Af (by omega) (by omega)
 exact W.nx (by(try dsimp only);first | omega | (and_intros<;>first | omega | assumption) | (simp;omega)) (by(try dsimp only);omega)
theorem jj {a0:A3 (Int)}:W (Km a0) (fun r=>True):=by
 unfold Km
 have ll_1:a0.l.length=3:=rfl
 refine W.bd (W.idx (by omega)) fun e1 q_e1=>W.re q_e1.2.2 ?_
 refine W.bd (W.idx (by omega)) fun e3 q_e3=>W.re q_e3.2.2 ?_
 refine W.bd (pR) fun r5 _=>W.rt trivial
theorem jk {a0:Bs} {a1:Int}:W (Oc a0 a1) (fun r=>True):=by
 unfold Oc
 try simp only [jn]
 refine W.bd (Np) (fun r1 q_r1=>?_)
 replace q_r1:r1=true→a0.X≤2∧ ∀ i:Int,0≤i→i<5→a0.Color.l.getD i.toNat default≤9:=q_r1
 have ll_1:a0.Color.l.length=5:=rfl
 refine W.if (fun _=>W.rt trivial) (fun h=>?_)
 try simp only [bz]at h
 have qq_2:=q_r1 h
 have qq_3:=qq_2.2
 refine W.it (fun(v:Int×Int)=>0≤v.2∧(v.2≤(5:Int)∨v.2≤0)) (fun v=>((5:Int) - v.2).toNat) ?_ ?_ (fun v hv=>?_)
 ·(try dsimp only);first | omega | (simp;omega) | (and_intros<;>first | omega | assumption | (simp;omega) | simp)
 ·(try dsimp only);first | omega | (simp;omega) | (and_intros<;>first | omega | assumption | (simp;omega) | simp)
 ·obtain⟨n_t5_12,i_t6_13⟩:=v
  replace hv:0≤i_t6_13∧(i_t6_13≤(5:Int)∨i_t6_13≤0):=hv
  show W (JB a0 n_t5_12 i_t6_13) _
  unfold JB
  refine W.if (fun h=>?_) (fun h=>?_)
  ·try simp only [bz]at h
   refine W.bd (W.idx (by omega)) fun e17 q_e17=>W.re q_e17.2.2 ?_
   refine W.bd (F0) (fun r19 _=>?_)
   have ww_4:Ac (i_t6_13+(1:Int))=i_t6_13+(1:Int):=Af (by omega) (by omega)
   exact W.nx (by(try dsimp only);first | omega | (and_intros<;>first | omega | assumption) | (simp;omega)) (by(try dsimp only);omega)
  ·try simp only [bz]at h
   refine W.ex ?_
   try dsimp only [Sum.elim_inl,Sum.elim_inr]
   unfold Ri
   try simp only [jn]
   refine W.if (fun h=>?_) (fun h=>?_)
   ·try simp only [bz]at h
    unfold Ld
    refine W.bd (bM) fun r7 q_r7=>W.bd (F0) fun r8 q_r8=>W.rt trivial
   ·try simp only [bz]at h
    unfold Ld
    refine W.bd (bM) fun r7 q_r7=>W.bd (F0) fun r8 q_r8=>W.rt trivial
theorem sM {a0:BZ} (k_a0:Fs a0):W (dO a0) (fun r=>True):=by
 unfold dO
 try simp only [jn]
 refine W.lt fun b1 bb_1=>W.lt fun b2 bb_2=>W.lt fun b3 bb_3=>W.lt fun b4 bb_4=>W.if (fun _=>W.rt trivial) (fun h=>?_)
 try simp only [bb_1,bb_2,bb_3,bb_4,bz]at h
 have:=AY (Eh k_a0)
 refine W.it (fun(v:Int)=>0≤v∧(v≤(a0.Subs.length:Int)∨v≤0)) (fun v=>((a0.Subs.length:Int) - v).toNat) (by omega) (by omega) (fun i_t3_13 hv=>?_)
 unfold X6
 refine W.if (fun h=>?_) (fun h=>?_)
 ·try simp only [bb_1,bb_2,bb_3,bb_4,bz]at h
  refine W.bd (W.idx (by omega)) fun e17 q_e17=>W.bd (D8 (show Fx e17 from Bp (Eh k_a0) q_e17.1)) (fun r18 q_r18=>?_)
  replace q_r18:r18=true→e17.length≤32:=q_r18
  have:=AN (show Fx e17 from Bp (Eh k_a0) q_e17.1)
  refine W.gb (fun gg_5=>by try simp only [bb_1,bb_2,bb_3,bb_4,bz]at gg_5;exact W.idx (by have ww_6:Ac (i_t3_13 - (1:Int))=i_t3_13 - (1:Int):=Af (by omega) (by omega);omega)) (fun e19 _=>?_)
  refine W.gb (fun gg_7=>by try simp only [bb_1,bb_2,bb_3,bb_4,bz]at gg_7;exact W.idx (by omega)) (fun e20 _=>?_)
  refine W.lt fun b21 bb_8=>W.lt fun b22 bb_9=>W.if (fun _=>W.ex (W.rt trivial)) (fun h=>?_)
  try simp only [bb_1,bb_2,bb_3,bb_4,bb_8,bb_9,bz]at h
  have ww_10:Ac (i_t3_13+(1:Int))=i_t3_13+(1:Int):=Af (by omega) (by omega)
  exact W.nx (by(try dsimp only);first | omega | (and_intros<;>first | omega | assumption) | (simp;omega)) (by(try dsimp only);omega)
 ·try simp only [bb_1,bb_2,bb_3,bb_4,bz]at h
  refine W.ex ?_
  try dsimp only [Sum.elim_inl,Sum.elim_inr]
  unfold bD
  refine W.lt fun b7 bb_11=>W.gb (fun gg_12=>by try simp only [bb_1,bb_2,bb_3,bb_4,bb_11,bz]at gg_12;exact S8 (by first | assumption | omega | exact Ae _ | (simp;done) | (simp;omega))) (fun r8 _=>?_)
  refine W.gb (fun gg_13=>by try simp only [bb_1,bb_2,bb_3,bb_4,bb_11,bz]at gg_13;exact S8 (by first | assumption | omega | exact Ae _ | (simp;done) | (simp;omega))) (fun r9 _=>?_)
  refine W.lt fun b10 bb_14=>W.lt fun b11 bb_15=>W.rt trivial
theorem BK {a0:Ar} (k_a0:AZ a0):W (FQ a0) (fun r=>r=true→0≤a0.Zone∧a0.Zone≤5∧0≤a0.Who∧a0.Who≤2∧0≤a0.Self∧a0.Self≤2∧0≤a0.Tap∧a0.Tap≤2∧0≤a0.Power.Kind∧a0.Power.Kind≤3∧0≤a0.Tough.Kind∧a0.Tough.Kind≤3∧0≤a0.Value.Kind∧a0.Value.Kind≤3∧a0.Sub.length≤32):=by
 unfold FQ
 refine W.lt fun b1 bb_1=>W.lt fun b2 bb_2=>W.lt fun b3 bb_3=>W.lt fun b4 bb_4=>W.lt fun b5 bb_5=>W.lt fun b6 bb_6=>W.lt fun b7 bb_7=>W.if (fun h=>?_) (fun h=>?_)
 ·try simp only [bb_1,bb_2,bb_3,bb_4,bb_5,bb_6,bb_7,bz]at h
  refine W.rt ?_
  first | (intro hz;cases hz;done) | (intro hz;simp only [bb_1,bb_2,bb_3,bb_4,bb_5,bb_6,bb_7,bz]at hz;have hS:a0.Sub.length≤32:=(by by_cases hs:a0.Sub=[];(rw [hs];decide);(simp_all));have h1:=q_r18 hz.1.1;have h2:=q_r19 (by simp only [bz];exact hz.1.1) hz.1.2;have h3:=q_r21 (by simp only [bb_1,bb_2,bb_3,bb_4,bb_5,bb_6,bb_7,bz];exact hz.1) hz.2;omega)
 ·try simp only [bb_1,bb_2,bb_3,bb_4,bb_5,bb_6,bb_7,bz]at h
  refine W.bd (UY) fun r9 _=>W.gb (fun _=>UY) fun r10 _=>W.lt fun b11 bb_9=>W.if (fun h=>?_) (fun h=>?_)
  ·try simp only [bb_1,bb_2,bb_3,bb_4,bb_5,bb_6,bb_7,bb_9,bz]at h
   refine W.rt ?_
   first | (intro hz;cases hz;done) | (intro hz;simp only [bb_1,bb_2,bb_3,bb_4,bb_5,bb_6,bb_7,bb_9,bz]at hz;have hS:a0.Sub.length≤32:=(by by_cases hs:a0.Sub=[];(rw [hs];decide);(simp_all));have h1:=q_r18 hz.1.1;have h2:=q_r19 (by simp only [bz];exact hz.1.1) hz.1.2;have h3:=q_r21 (by simp only [bb_1,bb_2,bb_3,bb_4,bb_5,bb_6,bb_7,bb_9,bz];exact hz.1) hz.2;omega)
  ·try simp only [bb_1,bb_2,bb_3,bb_4,bb_5,bb_6,bb_7,bb_9,bz]at h
   refine W.gb (fun _=>D8 (Ax k_a0)) fun r13 _=>W.lt fun b14 bb_11=>W.lt fun b15 bb_12=>W.lt fun b16 bb_13=>W.if (fun h=>?_) (fun h=>?_)
   ·try simp only [bb_1,bb_2,bb_3,bb_4,bb_5,bb_6,bb_7,bb_9,bb_11,bb_12,bb_13,bz]at h
    refine W.rt ?_
    first | (intro hz;cases hz;done) | (intro hz;simp only [bb_1,bb_2,bb_3,bb_4,bb_5,bb_6,bb_7,bb_9,bb_11,bb_12,bb_13,bz]at hz;have hS:a0.Sub.length≤32:=(by by_cases hs:a0.Sub=[];(rw [hs];decide);(simp_all));have h1:=q_r18 hz.1.1;have h2:=q_r19 (by simp only [bz];exact hz.1.1) hz.1.2;have h3:=q_r21 (by simp only [bb_1,bb_2,bb_3,bb_4,bb_5,bb_6,bb_7,bb_9,bb_11,bb_12,bb_13,bz];exact hz.1) hz.2;omega)
   ·try simp only [bb_1,bb_2,bb_3,bb_4,bb_5,bb_6,bb_7,bb_9,bb_11,bb_12,bb_13,bz]at h
    refine W.bd (Nr) (fun r18 q_r18=>?_)
    replace q_r18:r18=true→0≤a0.Power.Kind∧a0.Power.Kind≤3:=q_r18
    refine W.gb (fun _=>Nr) fun r19 q_r19=>W.lt fun b20 bb_15=>W.gb (fun _=>Nr) fun r21 q_r21=>W.lt fun b22 bb_17=>W.rt ?_
    first | (intro hz;cases hz;done) | (intro hz;simp only [bb_1,bb_2,bb_3,bb_4,bb_5,bb_6,bb_7,bb_9,bb_11,bb_12,bb_13,bb_15,bb_17,bz]at hz;have hS:a0.Sub.length≤32:=(by by_cases hs:a0.Sub=[];(rw [hs];decide);(simp_all));have h1:=q_r18 hz.1.1;have h2:=q_r19 (by simp only [bz];exact hz.1.1) hz.1.2;have h3:=q_r21 (by simp only [bb_1,bb_2,bb_3,bb_4,bb_5,bb_6,bb_7,bb_9,bb_11,bb_12,bb_13,bb_15,bb_17,bz];exact hz.1) hz.2;omega)
theorem Nw {a0:Int} (p_0:a0≤100):W (Fi a0) (fun r=>r.length≤500):=by
 unfold Fi
 try simp only [jn]
 refine W.it (fun(v:Int×Int)=>0≤v.2∧(v.2≤a0∨v.2≤0)) (fun v=>(a0 - v.2).toNat) ?_ ?_ (fun v hv=>?_)
 ·(try dsimp only);first | omega | (simp;omega) | (and_intros<;>first | omega | assumption | (simp;omega) | simp)
 ·(try dsimp only);first | omega | (simp;omega) | (and_intros<;>first | omega | assumption | (simp;omega) | simp)
 ·obtain⟨mask_t3_6,k_t4_7⟩:=v
  replace hv:0≤k_t4_7∧(k_t4_7≤a0∨k_t4_7≤0):=hv
  show W (GT a0 mask_t3_6 k_t4_7) _
  unfold GT
  refine W.if (fun h=>?_) (fun h=>?_)
  ·try simp only [bz]at h
   have ww_1:Ac (k_t4_7+(1:Int))=k_t4_7+(1:Int):=Af (by omega) (by omega)
   exact W.nx (by(try dsimp only);first | omega | (and_intros<;>first | omega | assumption) | (simp;omega)) (by(try dsimp only);omega)
  ·try simp only [bz]at h
   refine W.ex ?_
   try dsimp only [Sum.elim_inl,Sum.elim_inr]
   unfold LV
   refine W.bd (GX) (fun r3 q_r3=>?_)
   replace q_r3:r3.length≤500:=q_r3
   refine W.rt ?_
   first | omega | decide
theorem Bd {a0:A6 (Int)}:W (Hi a0) (fun r=>True):=by
 unfold Hi
 refine W.bd (mB) fun r1 _=>W.bd (mJ) fun r2 _=>W.rt trivial
theorem IC {a0:Ao} {a1:List (Int)} {a2:Int} {a3:Int} (k_a0:Bk a0) (k_a1:B5 8 IR a1):W (Ew a0 a1 a2 a3) (fun r=>True):=by
 unfold Ew
 have:=AY k_a1
 refine W.it (fun(v:Int)=>0≤v∧(v≤(a1.length:Int)∨v≤0)) (fun v=>((a1.length:Int) - v).toNat) (by omega) (by omega) (fun i_t9_3 hv=>?_)
 unfold Jb
 refine W.if (fun h=>?_) (fun _=>W.ex (W.rt trivial))
 try simp only [bz]at h
 refine W.bd (W.idx (by omega)) fun e6 _=>W.bd (RO k_a0) fun r7 _=>W.lt fun b8 bb_1=>W.lt fun b9 bb_2=>W.gb (fun gg_3=>by try simp only [bb_1,bb_2,bz]at gg_3;exact W.idx (by omega)) (fun e10 _=>?_)
 refine W.gb (fun _=>U0 k_a1) fun r11 _=>W.lt fun b12 bb_5=>W.if (fun _=>W.ex (W.rt trivial)) (fun h=>?_)
 try simp only [bb_1,bb_2,bb_5,bz]at h
 have ww_6:Ac (i_t9_3+(1:Int))=i_t9_3+(1:Int):=Af (by omega) (by omega)
 exact W.nx (by(try dsimp only);first | omega | (and_intros<;>first | omega | assumption) | (simp;omega)) (by(try dsimp only);omega)
theorem Zw {a0:List (A1)} {a1:Ao} (k_a1:Bk a1):W (Jc a0 a1) (fun r=>True):=by
 unfold Jc
 try simp only [jn]
 have:=AY (Ek k_a1)
 refine W.if (fun _=>W.rt trivial) (fun h=>?_)
 try simp only [bz]at h
 refine W.it (fun(v:Int)=>0≤v∧(v≤(a1.Objects.length:Int)∨v≤0)) (fun v=>((a1.Objects.length:Int) - v).toNat) (by omega) (by omega) (fun i_t5_4 hv=>?_)
 unfold M3
 refine W.if (fun h=>?_) (fun _=>W.ex (W.rt trivial))
 try simp only [bz]at h
 refine W.bd (W.idx (by omega)) fun e8 _=>W.bd (sL) fun r9 _=>W.lt fun b10 bb_1=>W.lt fun b11 bb_2=>W.gb (fun gg_3=>by try simp only [bb_1,bb_2,bz]at gg_3;exact W.idx (by have ww_4:Ac (i_t5_4 - (1:Int))=i_t5_4 - (1:Int):=Af (by omega) (by omega);omega)) (fun e12 _=>?_)
 refine W.lt fun b13 bb_5=>W.lt fun b14 bb_6=>W.if (fun _=>W.ex (W.rt trivial)) (fun h=>?_)
 try simp only [bb_1,bb_2,bb_5,bb_6,bz]at h
 refine W.bd (eF k_a1) fun r16 _=>W.if (fun _=>W.ex (W.rt trivial)) (fun h=>?_)
 try simp only [bb_1,bb_2,bb_5,bb_6,bz]at h
 have ww_7:Ac (i_t5_4+(1:Int))=i_t5_4+(1:Int):=Af (by omega) (by omega)
 exact W.nx (by(try dsimp only);first | omega | (and_intros<;>first | omega | assumption) | (simp;omega)) (by(try dsimp only);omega)
theorem mK {a0:Aw} {a1:Aw} (k_a0:Bl a0) (k_a1:Bl a1):W (Rk a0 a1) (fun r=>True):=by
 unfold Rk
 try simp only [jn]
 have:=AY (AP k_a0)
 have:=AY (AP k_a1)
 refine W.if (fun _=>W.rt trivial) (fun h=>?_)
 try simp only [bz]at h
 refine W.it (fun(v:Int)=>0≤v∧(v≤(a0.Specs.length:Int)∨v≤0)) (fun v=>((a0.Specs.length:Int) - v).toNat) (by omega) (by omega) (fun i_t5_14 hv=>?_)
 unfold Rj
 refine W.if (fun h=>?_) (fun h=>?_)
 ·try simp only [bz]at h
  refine W.bd (W.idx (by omega)) fun e18 _=>W.bd (W.idx (by omega)) fun e19 _=>W.if (fun _=>W.ex (W.rt trivial)) (fun h=>?_)
  try simp only [bz]at h
  have ww_1:Ac (i_t5_14+(1:Int))=i_t5_14+(1:Int):=Af (by omega) (by omega)
  exact W.nx (by(try dsimp only);first | omega | (and_intros<;>first | omega | assumption) | (simp;omega)) (by(try dsimp only);omega)
 ·try simp only [bz]at h
  refine W.ex ?_
  try dsimp only [Sum.elim_inl,Sum.elim_inr]
  unfold UU
  refine W.lt fun b3 bb_2=>W.gb (fun _=>Nt (Dv k_a0) (Dv k_a1)) fun r4 _=>W.lt fun b5 bb_4=>W.lt fun b6 bb_5=>W.lt fun b7 bb_6=>W.lt fun b8 bb_7=>W.lt fun b9 bb_8=>W.gb (fun _=>Yy (AE k_a0) (AE k_a1)) fun r10 _=>W.lt fun b11 bb_10=>W.lt fun b12 bb_11=>W.rt trivial
theorem eG {a0:Ah} {a1:Ar}:W (Le a0 a1) (fun r=>True):=by
 unfold Le
 refine W.bd (Ez) fun r1 _=>W.gb (fun _=>Nv) fun r2 _=>W.lt fun b3 bb_2=>W.lt fun b4 bb_3=>W.if (fun _=>W.rt trivial) (fun h=>?_)
 try simp only [bb_2,bb_3,bz]at h
 refine W.gb (fun _=>Nv) fun r6 _=>W.lt fun b7 bb_5=>W.lt fun b8 bb_6=>W.if (fun _=>W.rt trivial) (fun h=>?_)
 try simp only [bb_2,bb_3,bb_5,bb_6,bz]at h
 refine W.bd (jk) fun r10 _=>W.bd (Nv) fun r11 _=>W.rt trivial
theorem Yz {a0:BI} (k_a0:CC a0):W (ST a0) (fun r=>True):=by
 unfold ST
 try simp only [jn]
 refine W.lt fun b1 bb_1=>W.gb (fun _=>mw) fun r2 _=>W.lt fun b3 bb_3=>W.if (fun _=>W.rt trivial) (fun h=>?_)
 try simp only [bb_1,bb_3,bz]at h
 refine W.if (fun h=>?_) (fun h=>?_)
 ·try simp only [bb_1,bb_3,bz]at h
  unfold SS
  try simp only [jn]
  refine W.if (fun h=>?_) (fun h=>?_)
  ·try simp only [bb_1,bb_3,bz]at h
   refine W.bd (UZ) fun r8 q_r8=>W.rt trivial
  ·try simp only [bb_1,bb_3,bz]at h
   refine W.if (fun h=>?_) (fun h=>?_)
   ·try simp only [bb_1,bb_3,bz]at h
    unfold In
    try simp only [jn]
    refine W.if (fun h=>?_) (fun h=>?_)
    ·try simp only [bb_1,bb_3,bz]at h
     refine W.bd (D8 (CU k_a0)) (fun r12 q_r12=>?_)
     replace q_r12:r12=true→a0.Sub.length≤32:=q_r12
     have:=AN (CU k_a0)
     exact W.rt trivial
    ·try simp only [bb_1,bb_3,bz]at h
     refine W.if (fun h=>?_) (fun h=>?_)
     ·try simp only [bb_1,bb_3,bz]at h
      refine W.lt fun b14 bb_4=>W.rt trivial
     ·try simp only [bb_1,bb_3,bz]at h
      refine W.if (fun h=>?_) (fun h=>?_)
      ·try simp only [bb_1,bb_3,bz]at h
       refine W.lt fun b16 bb_5=>W.rt trivial
      ·try simp only [bb_1,bb_3,bz]at h
       refine W.if (fun h=>?_) (fun h=>?_)
       ·try simp only [bb_1,bb_3,bz]at h
        unfold Df
        refine W.if (fun h=>?_) (fun h=>?_)
        ·try simp only [bb_1,bb_3,bz]at h
         refine W.lt fun b20 bb_6=>W.rt trivial
        ·try simp only [bb_1,bb_3,bz]at h
         refine W.if (fun h=>?_) (fun h=>?_)
         ·try simp only [bb_1,bb_3,bz]at h
          refine W.bd (BK (Ba k_a0)) (fun r22 q_r22=>?_)
          replace q_r22:r22=true→0≤a0.Filter.Zone∧a0.Filter.Zone≤5∧0≤a0.Filter.Who∧a0.Filter.Who≤2∧0≤a0.Filter.Self∧a0.Filter.Self≤2∧0≤a0.Filter.Tap∧a0.Filter.Tap≤2∧0≤a0.Filter.Power.Kind∧a0.Filter.Power.Kind≤3∧0≤a0.Filter.Tough.Kind∧a0.Filter.Tough.Kind≤3∧0≤a0.Filter.Value.Kind∧a0.Filter.Value.Kind≤3∧a0.Filter.Sub.length≤32:=q_r22
          have:=AN (Ax (Ba k_a0))
          exact W.rt trivial
         ·try simp only [bb_1,bb_3,bz]at h
          refine W.if (fun h=>?_) (fun h=>?_)
          ·try simp only [bb_1,bb_3,bz]at h
           refine W.lt fun b24 bb_7=>W.lt fun b25 bb_8=>W.lt fun b26 bb_9=>W.rt trivial
          ·try simp only [bb_1,bb_3,bz]at h
           refine W.if (fun h=>?_) (fun _=>W.rt trivial)
           try simp only [bb_1,bb_3,bz]at h
           refine W.lt fun b28 bb_10=>W.lt fun b29 bb_11=>W.lt fun b30 bb_12=>W.rt trivial
       ·try simp only [bb_1,bb_3,bz]at h
        unfold Df
        refine W.if (fun h=>?_) (fun h=>?_)
        ·try simp only [bb_1,bb_3,bz]at h
         refine W.lt fun b20 bb_13=>W.rt trivial
        ·try simp only [bb_1,bb_3,bz]at h
         refine W.if (fun h=>?_) (fun h=>?_)
         ·try simp only [bb_1,bb_3,bz]at h
          refine W.bd (BK (Ba k_a0)) (fun r22 q_r22=>?_)
          replace q_r22:r22=true→0≤a0.Filter.Zone∧a0.Filter.Zone≤5∧0≤a0.Filter.Who∧a0.Filter.Who≤2∧0≤a0.Filter.Self∧a0.Filter.Self≤2∧0≤a0.Filter.Tap∧a0.Filter.Tap≤2∧0≤a0.Filter.Power.Kind∧a0.Filter.Power.Kind≤3∧0≤a0.Filter.Tough.Kind∧a0.Filter.Tough.Kind≤3∧0≤a0.Filter.Value.Kind∧a0.Filter.Value.Kind≤3∧a0.Filter.Sub.length≤32:=q_r22
          have:=AN (Ax (Ba k_a0))
          exact W.rt trivial
         ·try simp only [bb_1,bb_3,bz]at h
          refine W.if (fun h=>?_) (fun h=>?_)
          ·try simp only [bb_1,bb_3,bz]at h
           refine W.lt fun b24 bb_14=>W.lt fun b25 bb_15=>W.lt fun b26 bb_16=>W.rt trivial
          ·try simp only [bb_1,bb_3,bz]at h
           refine W.if (fun h=>?_) (fun _=>W.rt trivial)
           try simp only [bb_1,bb_3,bz]at h
           refine W.lt fun b28 bb_17=>W.lt fun b29 bb_18=>W.lt fun b30 bb_19=>W.rt trivial
   ·try simp only [bb_1,bb_3,bz]at h
    unfold In
    try simp only [jn]
    refine W.if (fun h=>?_) (fun h=>?_)
    ·try simp only [bb_1,bb_3,bz]at h
     refine W.bd (D8 (CU k_a0)) (fun r12 q_r12=>?_)
     replace q_r12:r12=true→a0.Sub.length≤32:=q_r12
     have:=AN (CU k_a0)
     exact W.rt trivial
    ·try simp only [bb_1,bb_3,bz]at h
     refine W.if (fun h=>?_) (fun h=>?_)
     ·try simp only [bb_1,bb_3,bz]at h
      refine W.lt fun b14 bb_20=>W.rt trivial
     ·try simp only [bb_1,bb_3,bz]at h
      refine W.if (fun h=>?_) (fun h=>?_)
      ·try simp only [bb_1,bb_3,bz]at h
       refine W.lt fun b16 bb_21=>W.rt trivial
      ·try simp only [bb_1,bb_3,bz]at h
       refine W.if (fun h=>?_) (fun h=>?_)
       ·try simp only [bb_1,bb_3,bz]at h
        unfold Df
        refine W.if (fun h=>?_) (fun h=>?_)
        ·try simp only [bb_1,bb_3,bz]at h
         refine W.lt fun b20 bb_22=>W.rt trivial
        ·try simp only [bb_1,bb_3,bz]at h
         refine W.if (fun h=>?_) (fun h=>?_)
         ·try simp only [bb_1,bb_3,bz]at h
          refine W.bd (BK (Ba k_a0)) (fun r22 q_r22=>?_)
          replace q_r22:r22=true→0≤a0.Filter.Zone∧a0.Filter.Zone≤5∧0≤a0.Filter.Who∧a0.Filter.Who≤2∧0≤a0.Filter.Self∧a0.Filter.Self≤2∧0≤a0.Filter.Tap∧a0.Filter.Tap≤2∧0≤a0.Filter.Power.Kind∧a0.Filter.Power.Kind≤3∧0≤a0.Filter.Tough.Kind∧a0.Filter.Tough.Kind≤3∧0≤a0.Filter.Value.Kind∧a0.Filter.Value.Kind≤3∧a0.Filter.Sub.length≤32:=q_r22
          have:=AN (Ax (Ba k_a0))
          exact W.rt trivial
         ·try simp only [bb_1,bb_3,bz]at h
          refine W.if (fun h=>?_) (fun h=>?_)
          ·try simp only [bb_1,bb_3,bz]at h
           refine W.lt fun b24 bb_23=>W.lt fun b25 bb_24=>W.lt fun b26 bb_25=>W.rt trivial
          ·try simp only [bb_1,bb_3,bz]at h
           refine W.if (fun h=>?_) (fun _=>W.rt trivial)
           try simp only [bb_1,bb_3,bz]at h
           refine W.lt fun b28 bb_26=>W.lt fun b29 bb_27=>W.lt fun b30 bb_28=>W.rt trivial
       ·try simp only [bb_1,bb_3,bz]at h
        unfold Df
        refine W.if (fun h=>?_) (fun h=>?_)
        ·try simp only [bb_1,bb_3,bz]at h
         refine W.lt fun b20 bb_29=>W.rt trivial
        ·try simp only [bb_1,bb_3,bz]at h
         refine W.if (fun h=>?_) (fun h=>?_)
         ·try simp only [bb_1,bb_3,bz]at h
          refine W.bd (BK (Ba k_a0)) (fun r22 q_r22=>?_)
          replace q_r22:r22=true→0≤a0.Filter.Zone∧a0.Filter.Zone≤5∧0≤a0.Filter.Who∧a0.Filter.Who≤2∧0≤a0.Filter.Self∧a0.Filter.Self≤2∧0≤a0.Filter.Tap∧a0.Filter.Tap≤2∧0≤a0.Filter.Power.Kind∧a0.Filter.Power.Kind≤3∧0≤a0.Filter.Tough.Kind∧a0.Filter.Tough.Kind≤3∧0≤a0.Filter.Value.Kind∧a0.Filter.Value.Kind≤3∧a0.Filter.Sub.length≤32:=q_r22
          have:=AN (Ax (Ba k_a0))
          exact W.rt trivial
         ·try simp only [bb_1,bb_3,bz]at h
          refine W.if (fun h=>?_) (fun h=>?_)
          ·try simp only [bb_1,bb_3,bz]at h
           refine W.lt fun b24 bb_30=>W.lt fun b25 bb_31=>W.lt fun b26 bb_32=>W.rt trivial
          ·try simp only [bb_1,bb_3,bz]at h
           refine W.if (fun h=>?_) (fun _=>W.rt trivial)
           try simp only [bb_1,bb_3,bz]at h
           refine W.lt fun b28 bb_33=>W.lt fun b29 bb_34=>W.lt fun b30 bb_35=>W.rt trivial
 ·try simp only [bb_1,bb_3,bz]at h
  unfold SS
  try simp only [jn]
  refine W.if (fun h=>?_) (fun h=>?_)
  ·try simp only [bb_1,bb_3,bz]at h
   refine W.bd (UZ) fun r8 q_r8=>W.rt trivial
  ·try simp only [bb_1,bb_3,bz]at h
   refine W.if (fun h=>?_) (fun h=>?_)
   ·try simp only [bb_1,bb_3,bz]at h
    unfold In
    try simp only [jn]
    refine W.if (fun h=>?_) (fun h=>?_)
    ·try simp only [bb_1,bb_3,bz]at h
     refine W.bd (D8 (CU k_a0)) (fun r12 q_r12=>?_)
     replace q_r12:r12=true→a0.Sub.length≤32:=q_r12
     have:=AN (CU k_a0)
     exact W.rt trivial
    ·try simp only [bb_1,bb_3,bz]at h
     refine W.if (fun h=>?_) (fun h=>?_)
     ·try simp only [bb_1,bb_3,bz]at h
      refine W.lt fun b14 bb_36=>W.rt trivial
     ·try simp only [bb_1,bb_3,bz]at h
      refine W.if (fun h=>?_) (fun h=>?_)
      ·try simp only [bb_1,bb_3,bz]at h
       refine W.lt fun b16 bb_37=>W.rt trivial
      ·try simp only [bb_1,bb_3,bz]at h
       refine W.if (fun h=>?_) (fun h=>?_)
       ·try simp only [bb_1,bb_3,bz]at h
        unfold Df
        refine W.if (fun h=>?_) (fun h=>?_)
        ·try simp only [bb_1,bb_3,bz]at h
         refine W.lt fun b20 bb_38=>W.rt trivial
        ·try simp only [bb_1,bb_3,bz]at h
         refine W.if (fun h=>?_) (fun h=>?_)
         ·try simp only [bb_1,bb_3,bz]at h
          refine W.bd (BK (Ba k_a0)) (fun r22 q_r22=>?_)
          replace q_r22:r22=true→0≤a0.Filter.Zone∧a0.Filter.Zone≤5∧0≤a0.Filter.Who∧a0.Filter.Who≤2∧0≤a0.Filter.Self∧a0.Filter.Self≤2∧0≤a0.Filter.Tap∧a0.Filter.Tap≤2∧0≤a0.Filter.Power.Kind∧a0.Filter.Power.Kind≤3∧0≤a0.Filter.Tough.Kind∧a0.Filter.Tough.Kind≤3∧0≤a0.Filter.Value.Kind∧a0.Filter.Value.Kind≤3∧a0.Filter.Sub.length≤32:=q_r22
          have:=AN (Ax (Ba k_a0))
          exact W.rt trivial
         ·try simp only [bb_1,bb_3,bz]at h
          refine W.if (fun h=>?_) (fun h=>?_)
          ·try simp only [bb_1,bb_3,bz]at h
           refine W.lt fun b24 bb_39=>W.lt fun b25 bb_40=>W.lt fun b26 bb_41=>W.rt trivial
          ·try simp only [bb_1,bb_3,bz]at h
           refine W.if (fun h=>?_) (fun _=>W.rt trivial)
           try simp only [bb_1,bb_3,bz]at h
           refine W.lt fun b28 bb_42=>W.lt fun b29 bb_43=>W.lt fun b30 bb_44=>W.rt trivial
       ·try simp only [bb_1,bb_3,bz]at h
        unfold Df
        refine W.if (fun h=>?_) (fun h=>?_)
        ·try simp only [bb_1,bb_3,bz]at h
         refine W.lt fun b20 bb_45=>W.rt trivial
        ·try simp only [bb_1,bb_3,bz]at h
         refine W.if (fun h=>?_) (fun h=>?_)
         ·try simp only [bb_1,bb_3,bz]at h
          refine W.bd (BK (Ba k_a0)) (fun r22 q_r22=>?_)
          replace q_r22:r22=true→0≤a0.Filter.Zone∧a0.Filter.Zone≤5∧0≤a0.Filter.Who∧a0.Filter.Who≤2∧0≤a0.Filter.Self∧a0.Filter.Self≤2∧0≤a0.Filter.Tap∧a0.Filter.Tap≤2∧0≤a0.Filter.Power.Kind∧a0.Filter.Power.Kind≤3∧0≤a0.Filter.Tough.Kind∧a0.Filter.Tough.Kind≤3∧0≤a0.Filter.Value.Kind∧a0.Filter.Value.Kind≤3∧a0.Filter.Sub.length≤32:=q_r22
          have:=AN (Ax (Ba k_a0))
          exact W.rt trivial
         ·try simp only [bb_1,bb_3,bz]at h
          refine W.if (fun h=>?_) (fun h=>?_)
          ·try simp only [bb_1,bb_3,bz]at h
           refine W.lt fun b24 bb_46=>W.lt fun b25 bb_47=>W.lt fun b26 bb_48=>W.rt trivial
          ·try simp only [bb_1,bb_3,bz]at h
           refine W.if (fun h=>?_) (fun _=>W.rt trivial)
           try simp only [bb_1,bb_3,bz]at h
           refine W.lt fun b28 bb_49=>W.lt fun b29 bb_50=>W.lt fun b30 bb_51=>W.rt trivial
   ·try simp only [bb_1,bb_3,bz]at h
    unfold In
    try simp only [jn]
    refine W.if (fun h=>?_) (fun h=>?_)
    ·try simp only [bb_1,bb_3,bz]at h
     refine W.bd (D8 (CU k_a0)) (fun r12 q_r12=>?_)
     replace q_r12:r12=true→a0.Sub.length≤32:=q_r12
     have:=AN (CU k_a0)
     exact W.rt trivial
    ·try simp only [bb_1,bb_3,bz]at h
     refine W.if (fun h=>?_) (fun h=>?_)
     ·try simp only [bb_1,bb_3,bz]at h
      refine W.lt fun b14 bb_52=>W.rt trivial
     ·try simp only [bb_1,bb_3,bz]at h
      refine W.if (fun h=>?_) (fun h=>?_)
      ·try simp only [bb_1,bb_3,bz]at h
       refine W.lt fun b16 bb_53=>W.rt trivial
      ·try simp only [bb_1,bb_3,bz]at h
       refine W.if (fun h=>?_) (fun h=>?_)
       ·try simp only [bb_1,bb_3,bz]at h
        unfold Df
        refine W.if (fun h=>?_) (fun h=>?_)
        ·try simp only [bb_1,bb_3,bz]at h
         refine W.lt fun b20 bb_54=>W.rt trivial
        ·try simp only [bb_1,bb_3,bz]at h
         refine W.if (fun h=>?_) (fun h=>?_)
         ·try simp only [bb_1,bb_3,bz]at h
          refine W.bd (BK (Ba k_a0)) (fun r22 q_r22=>?_)
          replace q_r22:r22=true→0≤a0.Filter.Zone∧a0.Filter.Zone≤5∧0≤a0.Filter.Who∧a0.Filter.Who≤2∧0≤a0.Filter.Self∧a0.Filter.Self≤2∧0≤a0.Filter.Tap∧a0.Filter.Tap≤2∧0≤a0.Filter.Power.Kind∧a0.Filter.Power.Kind≤3∧0≤a0.Filter.Tough.Kind∧a0.Filter.Tough.Kind≤3∧0≤a0.Filter.Value.Kind∧a0.Filter.Value.Kind≤3∧a0.Filter.Sub.length≤32:=q_r22
          have:=AN (Ax (Ba k_a0))
          exact W.rt trivial
         ·try simp only [bb_1,bb_3,bz]at h
          refine W.if (fun h=>?_) (fun h=>?_)
          ·try simp only [bb_1,bb_3,bz]at h
           refine W.lt fun b24 bb_55=>W.lt fun b25 bb_56=>W.lt fun b26 bb_57=>W.rt trivial
          ·try simp only [bb_1,bb_3,bz]at h
           refine W.if (fun h=>?_) (fun _=>W.rt trivial)
           try simp only [bb_1,bb_3,bz]at h
           refine W.lt fun b28 bb_58=>W.lt fun b29 bb_59=>W.lt fun b30 bb_60=>W.rt trivial
       ·try simp only [bb_1,bb_3,bz]at h
        unfold Df
        refine W.if (fun h=>?_) (fun h=>?_)
        ·try simp only [bb_1,bb_3,bz]at h
         refine W.lt fun b20 bb_61=>W.rt trivial
        ·try simp only [bb_1,bb_3,bz]at h
         refine W.if (fun h=>?_) (fun h=>?_)
         ·try simp only [bb_1,bb_3,bz]at h
          refine W.bd (BK (Ba k_a0)) (fun r22 q_r22=>?_)
          replace q_r22:r22=true→0≤a0.Filter.Zone∧a0.Filter.Zone≤5∧0≤a0.Filter.Who∧a0.Filter.Who≤2∧0≤a0.Filter.Self∧a0.Filter.Self≤2∧0≤a0.Filter.Tap∧a0.Filter.Tap≤2∧0≤a0.Filter.Power.Kind∧a0.Filter.Power.Kind≤3∧0≤a0.Filter.Tough.Kind∧a0.Filter.Tough.Kind≤3∧0≤a0.Filter.Value.Kind∧a0.Filter.Value.Kind≤3∧a0.Filter.Sub.length≤32:=q_r22
          have:=AN (Ax (Ba k_a0))
          exact W.rt trivial
         ·try simp only [bb_1,bb_3,bz]at h
          refine W.if (fun h=>?_) (fun h=>?_)
          ·try simp only [bb_1,bb_3,bz]at h
           refine W.lt fun b24 bb_62=>W.lt fun b25 bb_63=>W.lt fun b26 bb_64=>W.rt trivial
          ·try simp only [bb_1,bb_3,bz]at h
           refine W.if (fun h=>?_) (fun _=>W.rt trivial)
           try simp only [bb_1,bb_3,bz]at h
           refine W.lt fun b28 bb_65=>W.lt fun b29 bb_66=>W.lt fun b30 bb_67=>W.rt trivial
theorem Ny {l7_38:List (List UInt8)} (k_l7_38:B5 16 Fx l7_38) (p_0:l7_38.length≤49) (p_1: ∀ y∈l7_38,y.length≤600):W (Lf l7_38) (fun r=>r.length≤31000):=by
 unfold Lf
 have:=AY k_l7_38
 refine W.if (fun h=>?_) (fun h=>?_)
 ·try simp only [bz]at h
  refine W.rt ?_
  have ll_1:nN.length=3:=rfl
  first | omega | decide
 ·try simp only [bz]at h
  have ll_2:cU.length=1:=rfl
  refine W.bd (my k_l7_38 (by unfold Fx;omega) (by first | assumption | omega | exact Ae _ | (simp;done) | (simp;omega)) (by first | assumption | omega | exact Ae _ | (simp;done) | (simp;omega)) (by first | assumption | omega | exact Ae _ | (simp;done) | (simp;omega))) (fun r41 q_r41=>?_)
  replace q_r41:r41.length≤30500:=q_r41
  refine W.rt ?_
  first | omega | decide
theorem Nz {a0:Ar} {l7_35:List (List UInt8)} (k_l7_35:B5 16 Fx l7_35) (p_0:0≤a0.Zone∧a0.Zone≤5∧0≤a0.Who∧a0.Who≤2∧0≤a0.Self∧a0.Self≤2∧0≤a0.Tap∧a0.Tap≤2∧0≤a0.Power.Kind∧a0.Power.Kind≤3∧0≤a0.Tough.Kind∧a0.Tough.Kind≤3∧0≤a0.Value.Kind∧a0.Value.Kind≤3∧a0.Sub.length≤32) (p_1:l7_35.length≤48) (p_2: ∀ y∈l7_35,y.length≤600):W (Lg a0 l7_35) (fun r=>r.length≤31000):=by
 unfold Lg
 try simp only [jn]
 have ll_1:bj.length=5:=rfl
 refine W.bd (GY (by unfold Fx;omega) (by first | assumption | omega | exact Ae _ | (simp;done) | (simp;omega)) (by first | assumption | omega | exact Ae _ | (simp;done) | (simp;omega))) (fun r37 q_r37=>?_)
 replace q_r37:r37.length≤100:=q_r37
 refine W.if (fun h=>?_) (fun h=>?_)
 ·try simp only [bz]at h
  have:=AY k_l7_35
  exact Ny k_l7_35 (by first | assumption | omega | exact Ae _ | (simp;done) | (simp;omega)) (by first | assumption | omega | exact Ae _ | (simp;done) | (simp;omega))
 ·try simp only [bz]at h
  have:=AY k_l7_35
  have ll_3:([r37]:List (List UInt8)).length =1:=rfl
  refine W.bd (W.app (by first | omega | (simp;omega)) (by unfold maxLen;first | omega | (simp;omega))) (fun l43 q_l43=>?_)
  have ll_4:l43.length=(l7_35).length +([r37]:List (List UInt8)).length :=by rw [q_l43,List.length_append]
  have aa_5: ∀ y∈l43,y.length≤600:=by rw [q_l43];exact Eb p_2 (Ec (by omega))
  exact Ny (BT (by assumption) (by omega) (by omega)) (by first | assumption | omega | exact Ae _ | (simp;done) | (simp;omega)) (by first | assumption | omega | exact Ae _ | (simp;done) | (simp;omega))
theorem NA {a0:Ar} {l7_32:List (List UInt8)} (k_a0:AZ a0) (k_l7_32:B5 16 Fx l7_32) (p_0:0≤a0.Zone∧a0.Zone≤5∧0≤a0.Who∧a0.Who≤2∧0≤a0.Self∧a0.Self≤2∧0≤a0.Tap∧a0.Tap≤2∧0≤a0.Power.Kind∧a0.Power.Kind≤3∧0≤a0.Tough.Kind∧a0.Tough.Kind≤3∧0≤a0.Value.Kind∧a0.Value.Kind≤3∧a0.Sub.length≤32) (p_1:l7_32.length≤47) (p_2: ∀ y∈l7_32,y.length≤600):W (Lh a0 l7_32) (fun r=>r.length≤31000):=by
 unfold Lh
 try simp only [jn]
 have ll_1:bi.length=5:=rfl
 refine W.bd (GY (by unfold Fx;omega) (by first | assumption | omega | exact Ae _ | (simp;done) | (simp;omega)) (by first | assumption | omega | exact Ae _ | (simp;done) | (simp;omega))) (fun r34 q_r34=>?_)
 replace q_r34:r34.length≤100:=q_r34
 refine W.if (fun h=>?_) (fun h=>?_)
 ·try simp only [bz]at h
  have:=AN (Ax k_a0)
  have:=AY k_l7_32
  exact Nz k_l7_32 (by first | assumption | omega | exact Ae _ | (simp;done) | (simp;omega)) (by first | assumption | omega | exact Ae _ | (simp;done) | (simp;omega)) (by first | assumption | omega | exact Ae _ | (simp;done) | (simp;omega))
 ·try simp only [bz]at h
  have:=AY k_l7_32
  have ll_3:([r34]:List (List UInt8)).length =1:=rfl
  refine W.bd (W.app (by first | omega | (simp;omega)) (by unfold maxLen;first | omega | (simp;omega))) (fun l45 q_l45=>?_)
  have ll_4:l45.length=(l7_32).length +([r34]:List (List UInt8)).length :=by rw [q_l45,List.length_append]
  have aa_5: ∀ y∈l45,y.length≤600:=by rw [q_l45];exact Eb p_2 (Ec (by omega))
  have:=AN (Ax k_a0)
  exact Nz (BT (by assumption) (by omega) (by omega)) (by first | assumption | omega | exact Ae _ | (simp;done) | (simp;omega)) (by first | assumption | omega | exact Ae _ | (simp;done) | (simp;omega)) (by first | assumption | omega | exact Ae _ | (simp;done) | (simp;omega))
theorem NB {a0:Ar} {l7_29:List (List UInt8)} (k_a0:AZ a0) (k_l7_29:B5 16 Fx l7_29) (p_0:0≤a0.Zone∧a0.Zone≤5∧0≤a0.Who∧a0.Who≤2∧0≤a0.Self∧a0.Self≤2∧0≤a0.Tap∧a0.Tap≤2∧0≤a0.Power.Kind∧a0.Power.Kind≤3∧0≤a0.Tough.Kind∧a0.Tough.Kind≤3∧0≤a0.Value.Kind∧a0.Value.Kind≤3∧a0.Sub.length≤32) (p_1:l7_29.length≤46) (p_2: ∀ y∈l7_29,y.length≤600):W (Li a0 l7_29) (fun r=>r.length≤31000):=by
 unfold Li
 try simp only [jn]
 have ll_1:be.length=5:=rfl
 refine W.bd (GY (by unfold Fx;omega) (by first | assumption | omega | exact Ae _ | (simp;done) | (simp;omega)) (by first | assumption | omega | exact Ae _ | (simp;done) | (simp;omega))) (fun r31 q_r31=>?_)
 replace q_r31:r31.length≤100:=q_r31
 refine W.if (fun h=>?_) (fun h=>?_)
 ·try simp only [bz]at h
  have:=AN (Ax k_a0)
  have:=AY k_l7_29
  exact NA k_a0 k_l7_29 (by first | assumption | omega | exact Ae _ | (simp;done) | (simp;omega)) (by first | assumption | omega | exact Ae _ | (simp;done) | (simp;omega)) (by first | assumption | omega | exact Ae _ | (simp;done) | (simp;omega))
 ·try simp only [bz]at h
  have:=AY k_l7_29
  have ll_3:([r31]:List (List UInt8)).length =1:=rfl
  refine W.bd (W.app (by first | omega | (simp;omega)) (by unfold maxLen;first | omega | (simp;omega))) (fun l47 q_l47=>?_)
  have ll_4:l47.length=(l7_29).length +([r31]:List (List UInt8)).length :=by rw [q_l47,List.length_append]
  have aa_5: ∀ y∈l47,y.length≤600:=by rw [q_l47];exact Eb p_2 (Ec (by omega))
  have:=AN (Ax k_a0)
  exact NA k_a0 (BT (by assumption) (by omega) (by omega)) (by first | assumption | omega | exact Ae _ | (simp;done) | (simp;omega)) (by first | assumption | omega | exact Ae _ | (simp;done) | (simp;omega)) (by first | assumption | omega | exact Ae _ | (simp;done) | (simp;omega))
theorem NC {a0:Ar} {r6:List (List UInt8)} {l7_24:List (List UInt8)} (k_a0:AZ a0) (k_r6:B5 16 Fx r6) (p_0:0≤a0.Zone∧a0.Zone≤5∧0≤a0.Who∧a0.Who≤2∧0≤a0.Self∧a0.Self≤2∧0≤a0.Tap∧a0.Tap≤2∧0≤a0.Power.Kind∧a0.Power.Kind≤3∧0≤a0.Tough.Kind∧a0.Tough.Kind≤3∧0≤a0.Value.Kind∧a0.Value.Kind≤3∧a0.Sub.length≤32) (p_1:l7_24.length≤27) (p_2: ∀ y∈l7_24,y.length≤600) (p_3:r6.length=3) (p_4: ∀ y∈r6,y.length≤40):W (Ll a0 r6 l7_24) (fun r=>r.length≤31000):=by
 unfold Ll
 try simp only [jn]
 refine W.it (fun(v:Int×(List (List UInt8)))=>0≤v.1∧v.1≤17∧(v.2.length:Int)≤27+v.1∧ ∀ y∈v.2,y.length≤600) (fun v=>(17 - v.1).toNat) ?_ ?_ (fun v hv=>?_)
 ·(try dsimp only);first | omega | (simp;omega) | (and_intros<;>first | omega | assumption | (simp;omega) | simp)
 ·(try dsimp only);first | omega | (simp;omega) | (and_intros<;>first | omega | assumption | (simp;omega) | simp)
 ·obtain⟨vt12_53,l7_54⟩:=v
  replace hv:0≤vt12_53∧vt12_53≤17∧(l7_54.length:Int)≤27+vt12_53∧ ∀ y∈l7_54,y.length≤600:=hv
  obtain⟨vv_1,vv_2,vv_3,vv_4⟩:=hv
  show W (Lk a0 vt12_53 l7_54) _
  unfold Lk
  try simp only [jn]
  refine W.if (fun h=>?_) (fun h=>?_)
  ·try simp only [bz]at h
   refine W.bd (Kv (by first | assumption | omega | exact Ae _ | (simp;done) | (simp;omega))) fun r60 _=>W.if (fun h=>?_) (fun h=>?_)
   ·try simp only [bz]at h
    refine W.bd (PQ) (fun r62 q_r62=>?_)
    replace q_r62:r62.length≤40:=q_r62
    have ll_5:SI.length=5:=rfl
    refine W.bd (W.cat (by first | omega | (simp;omega))) (fun s63 q_s63=>?_)
    replace q_s63:s63.length=(SI).length +(r62).length :=q_s63.2
    have ll_6:([s63]:List (List UInt8)).length =1:=rfl
    refine W.bd (W.app (by first | omega | (simp;omega)) (by unfold maxLen;first | omega | (simp;omega))) (fun l64 q_l64=>?_)
    have ll_7:l64.length=(l7_54).length +([s63]:List (List UInt8)).length :=by rw [q_l64,List.length_append]
    have aa_8: ∀ y∈l64,y.length≤600:=by rw [q_l64];exact Eb vv_4 (Ec (by omega))
    unfold Lj
    have ww_9:Ac (vt12_53+(1:Int))=vt12_53+(1:Int):=Af (by omega) (by omega)
    exact W.nx (by(try dsimp only);first | omega | (and_intros<;>first | omega | assumption) | (simp;omega)) (by(try dsimp only);omega)
   ·try simp only [bz]at h
    unfold Lj
    have ww_10:Ac (vt12_53+(1:Int))=vt12_53+(1:Int):=Af (by omega) (by omega)
    exact W.nx (by(try dsimp only);first | omega | (and_intros<;>first | omega | assumption) | (simp;omega)) (by(try dsimp only);omega)
  ·try simp only [bz]at h
   refine W.ex ?_
   try dsimp only [Sum.elim_inl,Sum.elim_inr]
   unfold Rn
   try simp only [jn]
   have:=AY k_r6
   refine W.bd (W.idx (by omega)) (fun e28 q_e28=>?_)
   have ll_11:=p_4 e28 q_e28.1
   refine W.if (fun h=>?_) (fun h=>?_)
   ·try simp only [bz]at h
    have:=AN (Ax k_a0)
    exact NB k_a0 (BT (by assumption) (by omega) (by omega)) (by first | assumption | omega | exact Ae _ | (simp;done) | (simp;omega)) (by first | assumption | omega | exact Ae _ | (simp;done) | (simp;omega)) (by first | assumption | omega | exact Ae _ | (simp;done) | (simp;omega))
   ·try simp only [bz]at h
    have ll_13:([e28]:List (List UInt8)).length =1:=rfl
    refine W.bd (W.app (by first | omega | (simp;omega)) (by unfold maxLen;first | omega | (simp;omega))) (fun l49 q_l49=>?_)
    have ll_14:l49.length=(l7_54).length +([e28]:List (List UInt8)).length :=by rw [q_l49,List.length_append]
    have aa_15: ∀ y∈l49,y.length≤600:=by rw [q_l49];exact Eb vv_4 (Ec (by omega))
    have:=AN (Ax k_a0)
    exact NB k_a0 (BT (by assumption) (by omega) (by omega)) (by first | assumption | omega | exact Ae _ | (simp;done) | (simp;omega)) (by first | assumption | omega | exact Ae _ | (simp;done) | (simp;omega)) (by first | assumption | omega | exact Ae _ | (simp;done) | (simp;omega))
theorem YA {a0:Ar} {r6:List (List UInt8)} {l7_22:List (List UInt8)} (k_a0:AZ a0) (k_r6:B5 16 Fx r6) (k_l7_22:B5 16 Fx l7_22) (p_0:0≤a0.Zone∧a0.Zone≤5∧0≤a0.Who∧a0.Who≤2∧0≤a0.Self∧a0.Self≤2∧0≤a0.Tap∧a0.Tap≤2∧0≤a0.Power.Kind∧a0.Power.Kind≤3∧0≤a0.Tough.Kind∧a0.Tough.Kind≤3∧0≤a0.Value.Kind∧a0.Value.Kind≤3∧a0.Sub.length≤32) (p_1:l7_22.length≤26) (p_2: ∀ y∈l7_22,y.length≤600) (p_3:r6.length=3) (p_4: ∀ y∈r6,y.length≤40):W (Lm a0 r6 l7_22) (fun r=>r.length≤31000):=by
 unfold Lm
 try simp only [jn]
 refine W.if (fun h=>?_) (fun h=>?_)
 ·try simp only [bz]at h
  have:=AN (Ax k_a0)
  have ll_1:Js.length=4:=rfl
  refine W.bd (W.cat (by first | omega | (simp;omega))) (fun s66 q_s66=>?_)
  replace q_s66:s66.length=(Js).length +(a0.Sub).length :=q_s66.2
  have:=AY k_l7_22
  have ll_2:([s66]:List (List UInt8)).length =1:=rfl
  refine W.bd (W.app (by first | omega | (simp;omega)) (by unfold maxLen;first | omega | (simp;omega))) (fun l67 q_l67=>?_)
  have ll_3:l67.length=(l7_22).length +([s66]:List (List UInt8)).length :=by rw [q_l67,List.length_append]
  have aa_4: ∀ y∈l67,y.length≤600:=by rw [q_l67];exact Eb p_2 (Ec (by omega))
  have:=AY k_r6
  exact NC k_a0 k_r6 (by first | assumption | omega | exact Ae _ | (simp;done) | (simp;omega)) (by first | assumption | omega | exact Ae _ | (simp;done) | (simp;omega)) (by first | assumption | omega | exact Ae _ | (simp;done) | (simp;omega)) (by first | assumption | omega | exact Ae _ | (simp;done) | (simp;omega)) (by first | assumption | omega | exact Ae _ | (simp;done) | (simp;omega))
 ·try simp only [bz]at h
  have:=AN (Ax k_a0)
  have:=AY k_l7_22
  have:=AY k_r6
  exact NC k_a0 k_r6 (by first | assumption | omega | exact Ae _ | (simp;done) | (simp;omega)) (by first | assumption | omega | exact Ae _ | (simp;done) | (simp;omega)) (by first | assumption | omega | exact Ae _ | (simp;done) | (simp;omega)) (by first | assumption | omega | exact Ae _ | (simp;done) | (simp;omega)) (by first | assumption | omega | exact Ae _ | (simp;done) | (simp;omega))
theorem ND {a0:Ar} {r6:List (List UInt8)} {l7_14:List (List UInt8)} (k_a0:AZ a0) (k_r6:B5 16 Fx r6) (p_0:0≤a0.Zone∧a0.Zone≤5∧0≤a0.Who∧a0.Who≤2∧0≤a0.Self∧a0.Self≤2∧0≤a0.Tap∧a0.Tap≤2∧0≤a0.Power.Kind∧a0.Power.Kind≤3∧0≤a0.Tough.Kind∧a0.Tough.Kind≤3∧0≤a0.Value.Kind∧a0.Value.Kind≤3∧a0.Sub.length≤32) (p_1:l7_14.length≤3) (p_2: ∀ y∈l7_14,y.length≤600) (p_3:r6.length=3) (p_4: ∀ y∈r6,y.length≤40):W (Lr a0 r6 l7_14) (fun r=>r.length≤31000):=by
 unfold Lr
 try simp only [jn]
 refine W.it (fun(v:Int×(List (List UInt8)))=>0≤v.1∧v.1≤6∧(v.2.length:Int)≤3+v.1∧ ∀ y∈v.2,y.length≤600) (fun v=>(6 - v.1).toNat) ?_ ?_ (fun v hv=>?_)
 ·(try dsimp only);first | omega | (simp;omega) | (and_intros<;>first | omega | assumption | (simp;omega) | simp)
 ·(try dsimp only);first | omega | (simp;omega) | (and_intros<;>first | omega | assumption | (simp;omega) | simp)
 ·obtain⟨vt8_115,l7_116⟩:=v
  replace hv:0≤vt8_115∧vt8_115≤6∧(l7_116.length:Int)≤3+vt8_115∧ ∀ y∈l7_116,y.length≤600:=hv
  obtain⟨vv_1,vv_2,vv_3,vv_4⟩:=hv
  show W (JF a0 vt8_115 l7_116) _
  unfold JF
  try simp only [jn]
  refine W.if (fun h=>?_) (fun h=>?_)
  ·try simp only [bz]at h
   refine W.bd (Kv (by first | assumption | omega | exact Ae _ | (simp;done) | (simp;omega))) fun r122 _=>W.if (fun h=>?_) (fun h=>?_)
   ·try simp only [bz]at h
    refine W.bd (Nw (by first | assumption | omega | exact Ae _ | (simp;done) | (simp;omega))) (fun r124 q_r124=>?_)
    replace q_r124:r124.length≤500:=q_r124
    have ll_5:([r124]:List (List UInt8)).length =1:=rfl
    refine W.bd (W.app (by first | omega | (simp;omega)) (by unfold maxLen;first | omega | (simp;omega))) (fun l125 q_l125=>?_)
    have ll_6:l125.length=(l7_116).length +([r124]:List (List UInt8)).length :=by rw [q_l125,List.length_append]
    have aa_7: ∀ y∈l125,y.length≤600:=by rw [q_l125];exact Eb vv_4 (Ec (by omega))
    unfold JE
    have ww_8:Ac (vt8_115+(1:Int))=vt8_115+(1:Int):=Af (by omega) (by omega)
    exact W.nx (by(try dsimp only);first | omega | (and_intros<;>first | omega | assumption) | (simp;omega)) (by(try dsimp only);omega)
   ·try simp only [bz]at h
    unfold JE
    have ww_9:Ac (vt8_115+(1:Int))=vt8_115+(1:Int):=Af (by omega) (by omega)
    exact W.nx (by(try dsimp only);first | omega | (and_intros<;>first | omega | assumption) | (simp;omega)) (by(try dsimp only);omega)
  ·try simp only [bz]at h
   refine W.ex ?_
   try dsimp only [Sum.elim_inl,Sum.elim_inr]
   unfold Rr
   try simp only [jn]
   refine W.it (fun(v:Int×(List (List UInt8)))=>0≤v.1∧v.1≤6∧(v.2.length:Int)≤9+v.1∧ ∀ y∈v.2,y.length≤600) (fun v=>(6 - v.1).toNat) ?_ ?_ (fun v hv=>?_)
   ·(try dsimp only);first | omega | (simp;omega) | (and_intros<;>first | omega | assumption | (simp;omega) | simp)
   ·(try dsimp only);first | omega | (simp;omega) | (and_intros<;>first | omega | assumption | (simp;omega) | simp)
   ·obtain⟨vt9_100,l7_101⟩:=v
    replace hv:0≤vt9_100∧vt9_100≤6∧(l7_101.length:Int)≤9+vt9_100∧ ∀ y∈l7_101,y.length≤600:=hv
    obtain⟨vv_10,vv_11,vv_12,vv_13⟩:=hv
    show W (JD a0 vt9_100 l7_101) _
    unfold JD
    try simp only [jn]
    refine W.if (fun h=>?_) (fun h=>?_)
    ·try simp only [bz]at h
     refine W.bd (Kv (by first | assumption | omega | exact Ae _ | (simp;done) | (simp;omega))) fun r107 _=>W.if (fun h=>?_) (fun h=>?_)
     ·try simp only [bz]at h
      refine W.bd (Nw (by first | assumption | omega | exact Ae _ | (simp;done) | (simp;omega))) (fun r109 q_r109=>?_)
      replace q_r109:r109.length≤500:=q_r109
      have ll_14:J7.length=4:=rfl
      refine W.bd (W.cat (by first | omega | (simp;omega))) (fun s110 q_s110=>?_)
      replace q_s110:s110.length=(J7).length +(r109).length :=q_s110.2
      have ll_15:([s110]:List (List UInt8)).length =1:=rfl
      refine W.bd (W.app (by first | omega | (simp;omega)) (by unfold maxLen;first | omega | (simp;omega))) (fun l111 q_l111=>?_)
      have ll_16:l111.length=(l7_101).length +([s110]:List (List UInt8)).length :=by rw [q_l111,List.length_append]
      have aa_17: ∀ y∈l111,y.length≤600:=by rw [q_l111];exact Eb vv_13 (Ec (by omega))
      unfold JC
      have ww_18:Ac (vt9_100+(1:Int))=vt9_100+(1:Int):=Af (by omega) (by omega)
      exact W.nx (by(try dsimp only);first | omega | (and_intros<;>first | omega | assumption) | (simp;omega)) (by(try dsimp only);omega)
     ·try simp only [bz]at h
      unfold JC
      have ww_19:Ac (vt9_100+(1:Int))=vt9_100+(1:Int):=Af (by omega) (by omega)
      exact W.nx (by(try dsimp only);first | omega | (and_intros<;>first | omega | assumption) | (simp;omega)) (by(try dsimp only);omega)
    ·try simp only [bz]at h
     refine W.ex ?_
     try dsimp only [Sum.elim_inl,Sum.elim_inr]
     unfold Rq
     try simp only [jn]
     refine W.it (fun(v:Int×(List (List UInt8)))=>0≤v.1∧v.1≤5∧(v.2.length:Int)≤15+v.1∧ ∀ y∈v.2,y.length≤600) (fun v=>(5 - v.1).toNat) ?_ ?_ (fun v hv=>?_)
     ·(try dsimp only);first | omega | (simp;omega) | (and_intros<;>first | omega | assumption | (simp;omega) | simp)
     ·(try dsimp only);first | omega | (simp;omega) | (and_intros<;>first | omega | assumption | (simp;omega) | simp)
     ·obtain⟨vt10_86,l7_87⟩:=v
      replace hv:0≤vt10_86∧vt10_86≤5∧(l7_87.length:Int)≤15+vt10_86∧ ∀ y∈l7_87,y.length≤600:=hv
      obtain⟨vv_20,vv_21,vv_22,vv_23⟩:=hv
      show W (Lq a0 vt10_86 l7_87) _
      unfold Lq
      try simp only [jn]
      refine W.if (fun h=>?_) (fun h=>?_)
      ·try simp only [bz]at h
       refine W.bd (Kv (by first | assumption | omega | exact Ae _ | (simp;done) | (simp;omega))) fun r93 _=>W.if (fun h=>?_) (fun h=>?_)
       ·try simp only [bz]at h
        refine W.bd (LA) (fun r95 q_r95=>?_)
        replace q_r95:r95.length≤10:=q_r95
        have ll_24:([r95]:List (List UInt8)).length =1:=rfl
        refine W.bd (W.app (by first | omega | (simp;omega)) (by unfold maxLen;first | omega | (simp;omega))) (fun l96 q_l96=>?_)
        have ll_25:l96.length=(l7_87).length +([r95]:List (List UInt8)).length :=by rw [q_l96,List.length_append]
        have aa_26: ∀ y∈l96,y.length≤600:=by rw [q_l96];exact Eb vv_23 (Ec (by omega))
        unfold Lp
        have ww_27:Ac (vt10_86+(1:Int))=vt10_86+(1:Int):=Af (by omega) (by omega)
        exact W.nx (by(try dsimp only);first | omega | (and_intros<;>first | omega | assumption) | (simp;omega)) (by(try dsimp only);omega)
       ·try simp only [bz]at h
        unfold Lp
        have ww_28:Ac (vt10_86+(1:Int))=vt10_86+(1:Int):=Af (by omega) (by omega)
        exact W.nx (by(try dsimp only);first | omega | (and_intros<;>first | omega | assumption) | (simp;omega)) (by(try dsimp only);omega)
      ·try simp only [bz]at h
       refine W.ex ?_
       try dsimp only [Sum.elim_inl,Sum.elim_inr]
       unfold Ro
       try simp only [jn]
       refine W.it (fun(v:Int×(List (List UInt8)))=>0≤v.1∧v.1≤5∧(v.2.length:Int)≤20+v.1∧ ∀ y∈v.2,y.length≤600) (fun v=>(5 - v.1).toNat) ?_ ?_ (fun v hv=>?_)
       ·(try dsimp only);first | omega | (simp;omega) | (and_intros<;>first | omega | assumption | (simp;omega) | simp)
       ·(try dsimp only);first | omega | (simp;omega) | (and_intros<;>first | omega | assumption | (simp;omega) | simp)
       ·obtain⟨vt11_71,l7_72⟩:=v
        replace hv:0≤vt11_71∧vt11_71≤5∧(l7_72.length:Int)≤20+vt11_71∧ ∀ y∈l7_72,y.length≤600:=hv
        obtain⟨vv_29,vv_30,vv_31,vv_32⟩:=hv
        show W (Lo a0 vt11_71 l7_72) _
        unfold Lo
        try simp only [jn]
        refine W.if (fun h=>?_) (fun h=>?_)
        ·try simp only [bz]at h
         refine W.bd (Kv (by first | assumption | omega | exact Ae _ | (simp;done) | (simp;omega))) fun r78 _=>W.if (fun h=>?_) (fun h=>?_)
         ·try simp only [bz]at h
          refine W.bd (LA) (fun r80 q_r80=>?_)
          replace q_r80:r80.length≤10:=q_r80
          have ll_33:J7.length=4:=rfl
          refine W.bd (W.cat (by first | omega | (simp;omega))) (fun s81 q_s81=>?_)
          replace q_s81:s81.length=(J7).length +(r80).length :=q_s81.2
          have ll_34:([s81]:List (List UInt8)).length =1:=rfl
          refine W.bd (W.app (by first | omega | (simp;omega)) (by unfold maxLen;first | omega | (simp;omega))) (fun l82 q_l82=>?_)
          have ll_35:l82.length=(l7_72).length +([s81]:List (List UInt8)).length :=by rw [q_l82,List.length_append]
          have aa_36: ∀ y∈l82,y.length≤600:=by rw [q_l82];exact Eb vv_32 (Ec (by omega))
          unfold Ln
          have ww_37:Ac (vt11_71+(1:Int))=vt11_71+(1:Int):=Af (by omega) (by omega)
          exact W.nx (by(try dsimp only);first | omega | (and_intros<;>first | omega | assumption) | (simp;omega)) (by(try dsimp only);omega)
         ·try simp only [bz]at h
          unfold Ln
          have ww_38:Ac (vt11_71+(1:Int))=vt11_71+(1:Int):=Af (by omega) (by omega)
          exact W.nx (by(try dsimp only);first | omega | (and_intros<;>first | omega | assumption) | (simp;omega)) (by(try dsimp only);omega)
        ·try simp only [bz]at h
         refine W.ex ?_
         try dsimp only [Sum.elim_inl,Sum.elim_inr]
         have:=AN (Ax k_a0)
         have:=AY k_r6
         exact YA k_a0 k_r6 (BT (by assumption) (by omega) (by omega)) (by first | assumption | omega | exact Ae _ | (simp;done) | (simp;omega)) (by first | assumption | omega | exact Ae _ | (simp;done) | (simp;omega)) (by first | assumption | omega | exact Ae _ | (simp;done) | (simp;omega)) (by first | assumption | omega | exact Ae _ | (simp;done) | (simp;omega)) (by first | assumption | omega | exact Ae _ | (simp;done) | (simp;omega))
end Go.PL
