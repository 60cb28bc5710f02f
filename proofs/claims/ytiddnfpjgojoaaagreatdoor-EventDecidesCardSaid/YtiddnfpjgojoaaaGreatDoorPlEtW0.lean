/- Functions that answer: proofs. -/
import Derived.Test.YtiddnfpjgojoaaaGreatDoorPlEdB
import Derived.Test.YtiddnfpjgojoaaaGreatDoorPlEdF0
import Derived.Test.YtiddnfpjgojoaaaGreatDoorPlEdF1
import Derived.Test.YtiddnfpjgojoaaaGreatDoorPlEtL
namespace Go.PL
open Go
set_option maxRecDepth 100000
set_option linter.all false
set_option maxHeartbeats 2000000
theorem bn {a0:Int}:W (QE a0) (fun r=>True):=by
 unfold QE
 refine W.lt fun b1 bb_1=>W.rt trivial
theorem Nf {a0:Bs}:W (Mx a0) (fun r=>r=true→a0.X≤2∧ ∀ i:Int,0≤i→i<5→a0.Color.l.getD i.toNat default≤9):=by
 unfold Mx
 simp only [jn]
 refine W.lt (fun b1 h1=>?_)
 refine W.lt (fun b2 h2=>?_)
 refine W.lt (fun b3 h3=>?_)
 refine W.if (fun hh=>W.rt (fun h=>by cases h)) (fun hh=>?_)
 simp only [h3,h2,h1,bz]at hh
 refine W.it (fun(v:Int)=>0≤v∧v≤5∧ ∀ i:Int,0≤i→i<v→a0.Color.l.getD i.toNat default≤9) (fun v=>((5:Int) - v).toNat) ⟨by omega,by omega,fun i h1 h2=>by omega⟩ (by omega) (fun v hv=>?_)
 unfold aZ
 obtain⟨v1,v2,v3⟩:=hv
 have hl:a0.Color.l.length=5:=rfl
 refine W.if (fun hi=>?_) (fun hi=>?_)
 ·simp only [bz]at hi
  refine W.bd (W.idx (by omega)) (fun e10 q10=>?_)
  refine W.re q10.2.2 ?_
  refine W.gb (fun _=>W.idx (by omega)) (fun e13 q13=>?_)
  refine W.gb (fun _=>W.idx (by omega)) (fun e11 q11=>?_)
  refine W.lt (fun b12 h12=>?_)
  refine W.if (fun hb=>W.ex (W.rt (fun h=>by cases h))) (fun hb=>?_)
  simp only [h12,bz]at hb
  have e:e11=a0.Color.l.getD v.toNat default:=(q11 (by simp only [bz];exact hb.1)).2.1
  have w:=Af (x:=v+1) (by omega) (by omega)
  refine W.nx ⟨by omega,by omega,fun i k1 k2=>?_⟩ (by omega)
  by_cases k:i<v
  ·exact v3 i k1 k
  ·obtain rfl:i=v:=by omega
   rw [←e];omega
 ·simp only [bz]at hi
  refine W.ex (W.rt (fun _=>⟨by omega,fun i k1 k2=>v3 i k1 (by omega)⟩))
theorem S0:W (EZ) (fun r=>r.length=2∧ ∀ y∈r,y.length≤40):=by
 unfold EZ
 refine W.rt ?_
 have ll_1:aE.length=5:=rfl
 have ll_2:Xd.length=6:=rfl
 exact⟨rfl,of_decide_eq_true (by kernel_rfl)⟩
theorem Ng {a0:List (List UInt8)} {a1:List UInt8} (k_a0:B3 16 Fq a0):W (Hk a0 a1) (fun r=>True):=by
 unfold Hk
 try simp only [jn]
 have:=AX k_a0
 refine W.it (fun(v:Int)=>0≤v∧(v≤(a0.length:Int)∨v≤0)) (fun v=>((a0.length:Int) - v).toNat) (by omega) (by omega) (fun i_t5_3 hv=>?_)
 unfold QF
 refine W.if (fun h=>?_) (fun _=>W.ex (W.rt trivial))
 try simp only [bz]at h
 refine W.bd (W.idx (by omega)) fun e7 _=>W.if (fun _=>W.ex (W.rt trivial)) (fun h=>?_)
 try simp only [bz]at h
 have ww_1:Ac (i_t5_3+(1:Int))=i_t5_3+(1:Int):=Af (by omega) (by omega)
 exact W.nx (by(try dsimp only);first | omega | (and_intros<;>first | omega | assumption) | (simp;omega)) (by(try dsimp only);omega)
theorem LM:W (Es) (fun r=>r.length=6∧ ∀ y∈r,y.length≤40):=by
 unfold Es
 refine W.rt ?_
 have ll_1:Qq.length=8:=rfl
 have ll_2:Uu.length=7:=rfl
 have ll_3:Xe.length=6:=rfl
 have ll_4:aI.length=5:=rfl
 have ll_5:aJ.length=5:=rfl
 have ll_6:gq.length=4:=rfl
 exact⟨rfl,of_decide_eq_true (by kernel_rfl)⟩
theorem S1 {a0:Int} {a1:Int} (p_0:a1≤1000):W (NP a0 a1) (fun r=>True):=by
 unfold NP
 try simp only [jn]
 refine W.it (fun(v:Int×Int)=>0≤v.2∧(v.2≤a1∨v.2≤0)) (fun v=>(a1 - v.2).toNat) ?_ ?_ (fun v hv=>?_)
 ·(try dsimp only);first | omega | (simp;omega) | (and_intros<;>first | omega | assumption | (simp;omega) | simp)
 ·(try dsimp only);first | omega | (simp;omega) | (and_intros<;>first | omega | assumption | (simp;omega) | simp)
 ·obtain⟨mask_t0_5,k_t5_6⟩:=v
  replace hv:0≤k_t5_6∧(k_t5_6≤a1∨k_t5_6≤0):=hv
  show W (Pu a1 mask_t0_5 k_t5_6) _
  unfold Pu
  refine W.if (fun h=>?_) (fun _=>W.ex (W.rt trivial))
  try simp only [bz]at h
  have ww_1:Ac (k_t5_6+(1:Int))=k_t5_6+(1:Int):=Af (by omega) (by omega)
  exact W.nx (by(try dsimp only);first | omega | (and_intros<;>first | omega | assumption) | (simp;omega)) (by(try dsimp only);omega)
theorem iK {a0:Int}:W (Xq a0) (fun r=>True):=by
 unfold Xq
 refine W.lt fun b1 bb_1=>W.rt trivial
theorem Yb {a0:A0}:W (G4 a0) (fun r=>True):=by
 unfold G4
 exact W.rt trivial
theorem UQ {a0:Int} {a1:Int} {a2:Int}:W (J1 a0 a1 a2) (fun r=>True):=by
 unfold J1
 try simp only [jn]
 refine W.lt fun b1 bb_1=>W.lt fun b2 bb_2=>W.lt fun b3 bb_3=>W.if (fun _=>W.rt trivial) (fun h=>?_)
 try simp only [bb_1,bb_2,bb_3,bz]at h
 refine W.it (fun(v:Int×Int×Int)=>0≤v.2.2∧(v.2.2≤(6:Int)∨v.2.2≤0)) (fun v=>((6:Int) - v.2.2).toNat) ?_ ?_ (fun v hv=>?_)
 ·(try dsimp only);first | omega | (simp;omega) | (and_intros<;>first | omega | assumption | (simp;omega) | simp)
 ·(try dsimp only);first | omega | (simp;omega) | (and_intros<;>first | omega | assumption | (simp;omega) | simp)
 ·obtain⟨a_t0_9,b_t1_10,i_t7_11⟩:=v
  replace hv:0≤i_t7_11∧(i_t7_11≤(6:Int)∨i_t7_11≤0):=hv
  show W (Jl a_t0_9 b_t1_10 i_t7_11) _
  unfold Jl
  refine W.if (fun h=>?_) (fun _=>W.ex (W.rt trivial))
  try simp only [bb_1,bb_2,bb_3,bz]at h
  refine W.lt fun b15 bb_4=>W.if (fun _=>W.ex (W.rt trivial)) (fun h=>?_)
  try simp only [bb_1,bb_2,bb_3,bb_4,bz]at h
  have ww_5:Ac (i_t7_11+(1:Int))=i_t7_11+(1:Int):=Af (by omega) (by omega)
  exact W.nx (by(try dsimp only);first | omega | (and_intros<;>first | omega | assumption) | (simp;omega)) (by(try dsimp only);omega)
theorem Nh {a0:Ax}:W (Hm a0) (fun r=>r=true→0≤a0.Kind∧a0.Kind≤3):=by
 unfold Hm
 refine W.lt fun b1 bb_1=>W.lt fun b2 bb_2=>W.lt fun b3 bb_3=>W.if (fun h=>?_) (fun h=>?_)
 ·try simp only [bb_1,bb_2,bb_3,bz]at h
  refine W.rt ?_
  first | assumption | omega | (simp only [bb_1,bb_2,bb_3,bz];omega) | (simp only [bb_1,bb_2,bb_3,bz];intros;omega) | (intros;simp only [bb_1,bb_2,bb_3,bz]at *;omega) | exact⟨by simp,by simp⟩ | decide | simp_all
 ·try simp only [bb_1,bb_2,bb_3,bz]at h
  refine W.lt fun b5 bb_4=>W.rt ?_
  first | assumption | omega | (simp only [bb_1,bb_2,bb_3,bb_4,bz];omega) | (simp only [bb_1,bb_2,bb_3,bb_4,bz];intros;omega) | (intros;simp only [bb_1,bb_2,bb_3,bb_4,bz]at *;omega) | exact⟨by simp,by simp⟩ | decide | simp_all
theorem mf {a0:BH}:W (QG a0) (fun r=>True):=by
 unfold QG
 try simp only [jn]
 refine W.if (fun h=>?_) (fun h=>?_)
 ·try simp only [bz]at h
  unfold DP
  try simp only [jn]
  refine W.if (fun _=>W.rt trivial) (fun h=>?_)
  try simp only [bz]at h
  refine W.if (fun h=>?_) (fun h=>?_)
  ·try simp only [bz]at h
   unfold BT
   try simp only [jn]
   refine W.if (fun _=>W.rt trivial) (fun h=>?_)
   try simp only [bz]at h
   refine W.if (fun _=>W.rt trivial) (fun h=>?_)
   try simp only [bz]at h
   refine W.if (fun h=>?_) (fun h=>?_)
   ·try simp only [bz]at h
    unfold AV
    try simp only [jn]
    exact W.if (fun _=>W.rt trivial) (fun _=>W.rt trivial)
   ·try simp only [bz]at h
    unfold AV
    try simp only [jn]
    exact W.if (fun _=>W.rt trivial) (fun _=>W.rt trivial)
  ·try simp only [bz]at h
   unfold BT
   try simp only [jn]
   refine W.if (fun _=>W.rt trivial) (fun h=>?_)
   try simp only [bz]at h
   refine W.if (fun _=>W.rt trivial) (fun h=>?_)
   try simp only [bz]at h
   refine W.if (fun h=>?_) (fun h=>?_)
   ·try simp only [bz]at h
    unfold AV
    try simp only [jn]
    exact W.if (fun _=>W.rt trivial) (fun _=>W.rt trivial)
   ·try simp only [bz]at h
    unfold AV
    try simp only [jn]
    exact W.if (fun _=>W.rt trivial) (fun _=>W.rt trivial)
 ·try simp only [bz]at h
  refine W.if (fun h=>?_) (fun h=>?_)
  ·try simp only [bz]at h
   unfold DP
   try simp only [jn]
   refine W.if (fun _=>W.rt trivial) (fun h=>?_)
   try simp only [bz]at h
   refine W.if (fun h=>?_) (fun h=>?_)
   ·try simp only [bz]at h
    unfold BT
    try simp only [jn]
    refine W.if (fun _=>W.rt trivial) (fun h=>?_)
    try simp only [bz]at h
    refine W.if (fun _=>W.rt trivial) (fun h=>?_)
    try simp only [bz]at h
    refine W.if (fun h=>?_) (fun h=>?_)
    ·try simp only [bz]at h
     unfold AV
     try simp only [jn]
     exact W.if (fun _=>W.rt trivial) (fun _=>W.rt trivial)
    ·try simp only [bz]at h
     unfold AV
     try simp only [jn]
     exact W.if (fun _=>W.rt trivial) (fun _=>W.rt trivial)
   ·try simp only [bz]at h
    unfold BT
    try simp only [jn]
    refine W.if (fun _=>W.rt trivial) (fun h=>?_)
    try simp only [bz]at h
    refine W.if (fun _=>W.rt trivial) (fun h=>?_)
    try simp only [bz]at h
    refine W.if (fun h=>?_) (fun h=>?_)
    ·try simp only [bz]at h
     unfold AV
     try simp only [jn]
     exact W.if (fun _=>W.rt trivial) (fun _=>W.rt trivial)
    ·try simp only [bz]at h
     unfold AV
     try simp only [jn]
     exact W.if (fun _=>W.rt trivial) (fun _=>W.rt trivial)
  ·try simp only [bz]at h
   refine W.if (fun h=>?_) (fun h=>?_)
   ·try simp only [bz]at h
    unfold DP
    try simp only [jn]
    refine W.if (fun _=>W.rt trivial) (fun h=>?_)
    try simp only [bz]at h
    refine W.if (fun h=>?_) (fun h=>?_)
    ·try simp only [bz]at h
     unfold BT
     try simp only [jn]
     refine W.if (fun _=>W.rt trivial) (fun h=>?_)
     try simp only [bz]at h
     refine W.if (fun _=>W.rt trivial) (fun h=>?_)
     try simp only [bz]at h
     refine W.if (fun h=>?_) (fun h=>?_)
     ·try simp only [bz]at h
      unfold AV
      try simp only [jn]
      exact W.if (fun _=>W.rt trivial) (fun _=>W.rt trivial)
     ·try simp only [bz]at h
      unfold AV
      try simp only [jn]
      exact W.if (fun _=>W.rt trivial) (fun _=>W.rt trivial)
    ·try simp only [bz]at h
     unfold BT
     try simp only [jn]
     refine W.if (fun _=>W.rt trivial) (fun h=>?_)
     try simp only [bz]at h
     refine W.if (fun _=>W.rt trivial) (fun h=>?_)
     try simp only [bz]at h
     refine W.if (fun h=>?_) (fun h=>?_)
     ·try simp only [bz]at h
      unfold AV
      try simp only [jn]
      exact W.if (fun _=>W.rt trivial) (fun _=>W.rt trivial)
     ·try simp only [bz]at h
      unfold AV
      try simp only [jn]
      exact W.if (fun _=>W.rt trivial) (fun _=>W.rt trivial)
   ·try simp only [bz]at h
    refine W.if (fun h=>?_) (fun h=>?_)
    ·try simp only [bz]at h
     unfold DP
     try simp only [jn]
     refine W.if (fun _=>W.rt trivial) (fun h=>?_)
     try simp only [bz]at h
     refine W.if (fun h=>?_) (fun h=>?_)
     ·try simp only [bz]at h
      unfold BT
      try simp only [jn]
      refine W.if (fun _=>W.rt trivial) (fun h=>?_)
      try simp only [bz]at h
      refine W.if (fun _=>W.rt trivial) (fun h=>?_)
      try simp only [bz]at h
      refine W.if (fun h=>?_) (fun h=>?_)
      ·try simp only [bz]at h
       unfold AV
       try simp only [jn]
       exact W.if (fun _=>W.rt trivial) (fun _=>W.rt trivial)
      ·try simp only [bz]at h
       unfold AV
       try simp only [jn]
       exact W.if (fun _=>W.rt trivial) (fun _=>W.rt trivial)
     ·try simp only [bz]at h
      unfold BT
      try simp only [jn]
      refine W.if (fun _=>W.rt trivial) (fun h=>?_)
      try simp only [bz]at h
      refine W.if (fun _=>W.rt trivial) (fun h=>?_)
      try simp only [bz]at h
      refine W.if (fun h=>?_) (fun h=>?_)
      ·try simp only [bz]at h
       unfold AV
       try simp only [jn]
       exact W.if (fun _=>W.rt trivial) (fun _=>W.rt trivial)
      ·try simp only [bz]at h
       unfold AV
       try simp only [jn]
       exact W.if (fun _=>W.rt trivial) (fun _=>W.rt trivial)
    ·try simp only [bz]at h
     refine W.if (fun h=>?_) (fun h=>?_)
     ·try simp only [bz]at h
      unfold DP
      try simp only [jn]
      refine W.if (fun _=>W.rt trivial) (fun h=>?_)
      try simp only [bz]at h
      refine W.if (fun h=>?_) (fun h=>?_)
      ·try simp only [bz]at h
       unfold BT
       try simp only [jn]
       refine W.if (fun _=>W.rt trivial) (fun h=>?_)
       try simp only [bz]at h
       refine W.if (fun _=>W.rt trivial) (fun h=>?_)
       try simp only [bz]at h
       refine W.if (fun h=>?_) (fun h=>?_)
       ·try simp only [bz]at h
        unfold AV
        try simp only [jn]
        exact W.if (fun _=>W.rt trivial) (fun _=>W.rt trivial)
       ·try simp only [bz]at h
        unfold AV
        try simp only [jn]
        exact W.if (fun _=>W.rt trivial) (fun _=>W.rt trivial)
      ·try simp only [bz]at h
       unfold BT
       try simp only [jn]
       refine W.if (fun _=>W.rt trivial) (fun h=>?_)
       try simp only [bz]at h
       refine W.if (fun _=>W.rt trivial) (fun h=>?_)
       try simp only [bz]at h
       refine W.if (fun h=>?_) (fun h=>?_)
       ·try simp only [bz]at h
        unfold AV
        try simp only [jn]
        exact W.if (fun _=>W.rt trivial) (fun _=>W.rt trivial)
       ·try simp only [bz]at h
        unfold AV
        try simp only [jn]
        exact W.if (fun _=>W.rt trivial) (fun _=>W.rt trivial)
     ·try simp only [bz]at h
      unfold DP
      try simp only [jn]
      refine W.if (fun _=>W.rt trivial) (fun h=>?_)
      try simp only [bz]at h
      refine W.if (fun h=>?_) (fun h=>?_)
      ·try simp only [bz]at h
       unfold BT
       try simp only [jn]
       refine W.if (fun _=>W.rt trivial) (fun h=>?_)
       try simp only [bz]at h
       refine W.if (fun _=>W.rt trivial) (fun h=>?_)
       try simp only [bz]at h
       refine W.if (fun h=>?_) (fun h=>?_)
       ·try simp only [bz]at h
        unfold AV
        try simp only [jn]
        exact W.if (fun _=>W.rt trivial) (fun _=>W.rt trivial)
       ·try simp only [bz]at h
        unfold AV
        try simp only [jn]
        exact W.if (fun _=>W.rt trivial) (fun _=>W.rt trivial)
      ·try simp only [bz]at h
       unfold BT
       try simp only [jn]
       refine W.if (fun _=>W.rt trivial) (fun h=>?_)
       try simp only [bz]at h
       refine W.if (fun _=>W.rt trivial) (fun h=>?_)
       try simp only [bz]at h
       refine W.if (fun h=>?_) (fun h=>?_)
       ·try simp only [bz]at h
        unfold AV
        try simp only [jn]
        exact W.if (fun _=>W.rt trivial) (fun _=>W.rt trivial)
       ·try simp only [bz]at h
        unfold AV
        try simp only [jn]
        exact W.if (fun _=>W.rt trivial) (fun _=>W.rt trivial)
theorem UR {a0:Int}:W (NQ a0) (fun r=>True):=by
 unfold NQ
 refine W.lt fun b1 bb_1=>W.lt fun b2 bb_2=>W.rt trivial
theorem sq {a0:Int}:W (cR a0) (fun r=>True):=by
 unfold cR
 refine W.lt fun b1 bb_1=>W.rt trivial
theorem Lm {a0:Int}:W (J2 a0) (fun r=>r.length≤10):=by
 unfold J2
 refine W.if (fun h=>?_) (fun h=>?_)
 ·try simp only [bz]at h
  refine W.rt ?_
  have ll_1:aK.length=5:=rfl
  first | assumption | omega | (simp only [bz];omega) | (simp only [bz];intros;omega) | (intros;simp only [bz]at *;omega) | exact⟨by simp,by simp⟩ | decide | simp_all
 ·try simp only [bz]at h
  refine W.if (fun h=>?_) (fun h=>?_)
  ·try simp only [bz]at h
   refine W.rt ?_
   have ll_2:Xg.length=6:=rfl
   first | assumption | omega | (simp only [bz];omega) | (simp only [bz];intros;omega) | (intros;simp only [bz]at *;omega) | exact⟨by simp,by simp⟩ | decide | simp_all
  ·try simp only [bz]at h
   refine W.if (fun h=>?_) (fun h=>?_)
   ·try simp only [bz]at h
    refine W.rt ?_
    have ll_3:nt.length=3:=rfl
    first | assumption | omega | (simp only [bz];omega) | (simp only [bz];intros;omega) | (intros;simp only [bz]at *;omega) | exact⟨by simp,by simp⟩ | decide | simp_all
   ·try simp only [bz]at h
    refine W.if (fun h=>?_) (fun h=>?_)
    ·try simp only [bz]at h
     refine W.rt ?_
     have ll_4:gt.length=4:=rfl
     first | assumption | omega | (simp only [bz];omega) | (simp only [bz];intros;omega) | (intros;simp only [bz]at *;omega) | exact⟨by simp,by simp⟩ | decide | simp_all
    ·try simp only [bz]at h
     refine W.if (fun h=>?_) (fun h=>?_)
     ·try simp only [bz]at h
      refine W.rt ?_
      have ll_5:Uw.length=7:=rfl
      first | assumption | omega | (simp only [bz];omega) | (simp only [bz];intros;omega) | (intros;simp only [bz]at *;omega) | exact⟨by simp,by simp⟩ | decide | simp_all
     ·try simp only [bz]at h
      refine W.rt ?_
      first | assumption | omega | (simp only [bz];omega) | (simp only [bz];intros;omega) | (intros;simp only [bz]at *;omega) | exact⟨by simp,by simp⟩ | decide | simp_all
theorem iL:W (NR) (fun r=>r.length=17∧ ∀ y∈r,y.length≤40):=by
 unfold NR
 refine W.rt ?_
 have ll_1:Xh.length=6:=rfl
 have ll_2:aL.length=5:=rfl
 have ll_3:aM.length=5:=rfl
 have ll_4:Qs.length=8:=rfl
 have ll_5:Ux.length=7:=rfl
 have ll_6:JT.length=12:=rfl
 have ll_7:IR.length=13:=rfl
 have ll_8:Xi.length=6:=rfl
 have ll_9:Qt.length=8:=rfl
 have ll_10:Xj.length=6:=rfl
 have ll_11:Qu.length=8:=rfl
 have ll_12:Xk.length=6:=rfl
 have ll_13:Xl.length=6:=rfl
 have ll_14:Uy.length=7:=rfl
 have ll_15:Ot.length=9:=rfl
 have ll_16:Qv.length=8:=rfl
 have ll_17:Lv.length=11:=rfl
 exact⟨rfl,of_decide_eq_true (by kernel_rfl)⟩
theorem Vg:W (F2) (fun r=>r.length=6∧ ∀ y∈r,y.length≤40):=by
 unfold F2
 refine W.rt ?_
 have ll_1:Uz.length=7:=rfl
 have ll_2:Mu.length=10:=rfl
 have ll_3:JU.length=12:=rfl
 have ll_4:Qw.length=8:=rfl
 have ll_5:Qx.length=8:=rfl
 exact⟨rfl,of_decide_eq_true (by kernel_rfl)⟩
theorem Yc:W (G5) (fun r=>r.length=3∧ ∀ y∈r,y.length≤40):=by
 unfold G5
 refine W.rt ?_
 have ll_1:aP.length=5:=rfl
 have ll_2:Xm.length=6:=rfl
 exact⟨rfl,of_decide_eq_true (by kernel_rfl)⟩
theorem Vh:W (F3) (fun r=>r.length=3∧ ∀ y∈r,y.length≤40):=by
 unfold F3
 refine W.rt ?_
 have ll_1:gu.length=4:=rfl
 have ll_2:aQ.length=5:=rfl
 exact⟨rfl,of_decide_eq_true (by kernel_rfl)⟩
theorem Yd:W (G6) (fun r=>r.length=3∧ ∀ y∈r,y.length≤40):=by
 unfold G6
 refine W.rt ?_
 have ll_1:Xn.length=6:=rfl
 have ll_2:Qy.length=8:=rfl
 exact⟨rfl,of_decide_eq_true (by kernel_rfl)⟩
theorem Kj {a0:Int} {a1:Int} (p_0:a1≤1000):W (IV a0 a1) (fun r=>True):=by
 unfold IV
 try simp only [jn]
 refine W.it (fun(v:Int×Int)=>0≤v.2∧(v.2≤a1∨v.2≤0)) (fun v=>(a1 - v.2).toNat) ?_ ?_ (fun v hv=>?_)
 ·(try dsimp only);first | omega | (simp;omega) | (and_intros<;>first | omega | assumption | (simp;omega) | simp)
 ·(try dsimp only);first | omega | (simp;omega) | (and_intros<;>first | omega | assumption | (simp;omega) | simp)
 ·obtain⟨mask_t0_5,k_t5_6⟩:=v
  replace hv:0≤k_t5_6∧(k_t5_6≤a1∨k_t5_6≤0):=hv
  show W (Pv a1 mask_t0_5 k_t5_6) _
  unfold Pv
  refine W.if (fun h=>?_) (fun _=>W.ex (W.rt trivial))
  try simp only [bz]at h
  have ww_1:Ac (k_t5_6+(1:Int))=k_t5_6+(1:Int):=Af (by omega) (by omega)
  exact W.nx (by(try dsimp only);first | omega | (and_intros<;>first | omega | assumption) | (simp;omega)) (by(try dsimp only);omega)
theorem iM:W (NS) (fun r=>r.length=4∧ ∀ y∈r,y.length≤40):=by
 unfold NS
 refine W.rt ?_
 have ll_1:aS.length=2:=rfl
 have ll_2:aU.length=2:=rfl
 have ll_3:nu.length=1:=rfl
 exact⟨rfl,of_decide_eq_true (by kernel_rfl)⟩
theorem RE {a0:Int} (p_0:0≤a0∧a0≤18446744073709551615):W (EH a0) (fun r=>r.length≤20):=by
 refine⟨_,(show EH a0=jT a0 from rfl).trans (oq p_0.1 p_0.2),ce 19 _ (by omega)⟩
theorem mg {a0:List (List UInt8)} {a1:List UInt8} (k_a0:B3 16 Fq a0) (k_a1:Fq a1) (p_0:a0.length≤50) (p_1: ∀ y∈a0,y.length≤600) (p_2:a1.length≤10):W (QH a0 a1) (fun r=>r.length≤30500):=by
 unfold QH
 try simp only [jn]
 have:=AX k_a0
 refine W.it (fun(v:(List UInt8)×Int)=>0≤v.2∧(v.2≤a0.length∨v.2≤0)∧(v.1.length:Int)≤610*v.2) (fun v=>((a0.length:Int) - v.2).toNat) ?_ ?_ (fun v hv=>?_)
 ·(try dsimp only);first | omega | (simp;omega) | (and_intros<;>first | omega | assumption | (simp;omega) | simp)
 ·(try dsimp only);first | omega | (simp;omega) | (and_intros<;>first | omega | assumption | (simp;omega) | simp)
 ·obtain⟨s_t5_5,i_t6_6⟩:=v
  replace hv:0≤i_t6_6∧(i_t6_6≤a0.length∨i_t6_6≤0)∧(s_t5_5.length:Int)≤610*i_t6_6:=hv
  show W (Mz a0 a1 s_t5_5 i_t6_6) _
  unfold Mz
  try simp only [jn]
  refine W.if (fun h=>?_) (fun h=>?_)
  ·try simp only [bz]at h
   refine W.if (fun h=>?_) (fun h=>?_)
   ·try simp only [bz]at h
    have:=AL k_a1
    refine W.bd (W.cat (by first | omega | (simp;omega))) (fun s15 q_s15=>?_)
    replace q_s15:s15.length=(s_t5_5).length +(a1).length :=q_s15.2
    unfold KL
    refine W.bd (W.idx (by omega)) (fun e12 q_e12=>?_)
    have ll_1:=p_1 e12 q_e12.1
    have:=AL (show Fq e12 from Bo k_a0 q_e12.1)
    refine W.bd (W.cat (by first | omega | (simp;omega))) (fun s13 q_s13=>?_)
    replace q_s13:s13.length=(s15).length +(e12).length :=q_s13.2
    have ww_2:Ac (i_t6_6+(1:Int))=i_t6_6+(1:Int):=Af (by omega) (by omega)
    exact W.nx (by(try dsimp only);first | omega | (and_intros<;>first | omega | assumption) | (simp;omega)) (by(try dsimp only);omega)
   ·try simp only [bz]at h
    unfold KL
    refine W.bd (W.idx (by omega)) (fun e12 q_e12=>?_)
    have ll_3:=p_1 e12 q_e12.1
    have:=AL (show Fq e12 from Bo k_a0 q_e12.1)
    refine W.bd (W.cat (by first | omega | (simp;omega))) (fun s13 q_s13=>?_)
    replace q_s13:s13.length=(s_t5_5).length +(e12).length :=q_s13.2
    have ww_4:Ac (i_t6_6+(1:Int))=i_t6_6+(1:Int):=Af (by omega) (by omega)
    exact W.nx (by(try dsimp only);first | omega | (and_intros<;>first | omega | assumption) | (simp;omega)) (by(try dsimp only);omega)
  ·try simp only [bz]at h
   refine W.ex ?_
   try dsimp only [Sum.elim_inl,Sum.elim_inr]
   unfold UC
   refine W.rt ?_
   first | assumption | omega | (simp only [bz];omega) | (simp only [bz];intros;omega) | (intros;simp only [bz]at *;omega) | exact⟨by simp,by simp⟩ | decide | simp_all
theorem Ye {a0:Int}:W (MA a0) (fun r=>True):=by
 unfold MA
 exact W.if (fun _=>W.rt trivial) (fun _=>W.if (fun _=>W.rt trivial) (fun _=>W.if (fun _=>W.rt trivial) (fun _=>W.if (fun _=>W.rt trivial) (fun _=>W.if (fun _=>W.rt trivial) (fun _=>W.if (fun _=>W.rt trivial) (fun _=>W.if (fun _=>W.rt trivial) (fun _=>W.if (fun _=>W.rt trivial) (fun _=>W.if (fun _=>W.rt trivial) (fun _=>W.if (fun _=>W.rt trivial) (fun _=>W.if (fun _=>W.rt trivial) (fun _=>W.if (fun _=>W.rt trivial) (fun _=>W.if (fun _=>W.rt trivial) (fun _=>W.if (fun _=>W.rt trivial) (fun _=>W.rt trivial))))))))))))))
theorem RF {a0:Int}:W (HZ a0) (fun r=>True):=by
 unfold HZ
 refine W.lt fun b1 bb_1=>W.lt fun b2 bb_2=>W.lt fun b3 bb_3=>W.lt fun b4 bb_4=>W.lt fun b5 bb_5=>W.rt trivial
theorem iN {a0:BA}:W (NT a0) (fun r=>True):=by
 unfold NT
 refine W.lt fun b1 bb_1=>W.if (fun _=>W.rt trivial) (fun h=>?_)
 try simp only [bb_1,bz]at h
 refine W.lt fun b3 bb_2=>W.if (fun h=>?_) (fun _=>W.rt trivial)
 try simp only [bb_1,bb_2,bz]at h
 refine W.lt fun b5 bb_3=>W.rt trivial
theorem mh {a0:Int}:W (QJ a0) (fun r=>True):=by
 unfold QJ
 refine W.lt fun b1 bb_1=>W.if (fun _=>W.rt trivial) (fun h=>?_)
 try simp only [bb_1,bz]at h
 have ll_2:FG.length=6:=rfl
 have ll_3:IS.length=7:=rfl
 have ll_4:JW.length=4:=rfl
 have ll_5:JX.length=4:=rfl
 have ll_6:IT.length=7:=rfl
 have ll_7:JY.length=4:=rfl
 have ll_8:JZ.length=4:=rfl
 have ll_9:NN.length=3:=rfl
 have ll_10:Hi.length=5:=rfl
 have ll_11:NO.length=3:=rfl
 have ll_12:J0.length=4:=rfl
 have ll_13:FH.length=6:=rfl
 have ll_14:VI.length=3:=rfl
 have ll_15:Qz.length=4:=rfl
 have ll_16:IU.length=7:=rfl
 have ll_17:QA.length=4:=rfl
 have ll_18:KH.length=6:=rfl
 have ll_19:F0.length=9:=rfl
 have ll_20:QB.length=4:=rfl
 have ll_21:QC.length=4:=rfl
 have ll_22:KI.length=6:=rfl
 have ll_23:KJ.length=6:=rfl
 have ll_24:QD.length=4:=rfl
 have ll_25:VJ.length=3:=rfl
 have ll_26:KK.length=6:=rfl
 have ll_27:Hj.length=5:=rfl
 have ll_28:([FG,IS,JW,JX,IT,JY,JZ,NN,Hi,NO,J0,FH,VI,Qz,IU,QA,KH,F0,QB,QC,KI,KJ,QD,VJ,KK,Hj]:List (List UInt8)).length =26:=rfl
 refine W.bd (W.idx (by have ww_29:Ac (a0 - (1:Int))=a0 - (1:Int):=Af (by omega) (by omega);omega)) fun e3 q_e3=>W.re q_e3.2.2 ?_
 exact W.rt trivial
end Go.PL
