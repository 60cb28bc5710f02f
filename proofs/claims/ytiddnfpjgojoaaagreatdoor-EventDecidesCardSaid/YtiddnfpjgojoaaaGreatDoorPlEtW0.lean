/- Functions that answer: proofs. -/
import Derived.Test.YtiddnfpjgojoaaaGreatDoorPlEdB
import Derived.Test.YtiddnfpjgojoaaaGreatDoorPlEdF0
import Derived.Test.YtiddnfpjgojoaaaGreatDoorPlEdF1
import Derived.Test.YtiddnfpjgojoaaaGreatDoorPlEtL
namespace Go.PL
open Go
set_option maxRecDepth 100000
set_option linter.all false
set_option maxHeartbeats 2000000
theorem bK {a0:Int}:W (QJ a0) (fun r=>True):=by
 unfold QJ
 refine W.lt fun b1 bb_1=>W.rt trivial
theorem Np {a0:Bs}:W (MH a0) (fun r=>r=true→a0.X≤2∧ ∀ i:Int,0≤i→i<5→a0.Color.l.getD i.toNat default≤9):=by
 unfold MH
 simp only [jn]
 refine W.lt (fun b1 h1=>?_)
 refine W.lt (fun b2 h2=>?_)
 refine W.lt (fun b3 h3=>?_)
 refine W.if (fun hh=>W.rt (fun h=>by cases h)) (fun hh=>?_)
 simp only [h3,h2,h1,bz]at hh
 refine W.it (fun(v:Int)=>0≤v∧v≤5∧ ∀ i:Int,0≤i→i<v→a0.Color.l.getD i.toNat default≤9) (fun v=>((5:Int) - v).toNat) ⟨by omega,by omega,fun i h1 h2=>by omega⟩ (by omega) (fun v hv=>?_)
 unfold bp
 obtain⟨v1,v2,v3⟩:=hv
 have hl:a0.Color.l.length=5:=rfl
 refine W.if (fun hi=>?_) (fun hi=>?_)
 ·simp only [bz]at hi
  refine W.bd (W.idx (by omega)) (fun e10 q10=>?_)
  refine W.re q10.2.2 ?_
  refine W.gb (fun _=>W.idx (by omega)) (fun e13 q13=>?_)
  refine W.gb (fun _=>W.idx (by omega)) (fun e11 q11=>?_)
  refine W.lt (fun b12 h12=>?_)
  refine W.if (fun hb=>W.ex (W.rt (fun h=>by cases h))) (fun hb=>?_)
  simp only [h12,bz]at hb
  have e:e11=a0.Color.l.getD v.toNat default:=(q11 (by simp only [bz];exact hb.1)).2.1
  have w:=Af (x:=v+1) (by omega) (by omega)
  refine W.nx ⟨by omega,by omega,fun i k1 k2=>?_⟩ (by omega)
  by_cases k:i<v
  ·exact v3 i k1 k
  ·obtain rfl:i=v:=by omega
   rw [←e];omega
 ·simp only [bz]at hi
  refine W.ex (W.rt (fun _=>⟨by omega,fun i k1 k2=>v3 i k1 (by omega)⟩))
theorem S7:W (E8) (fun r=>r.length=2∧ ∀ y∈r,y.length≤40):=by
 unfold E8
 refine W.rt ?_
 have ll_1:aX.length=5:=rfl
 have ll_2:Xs.length=6:=rfl
 exact⟨rfl,of_decide_eq_true (by kernel_rfl)⟩
theorem Nq {a0:List (List UInt8)} {a1:List UInt8} (k_a0:B5 16 Fx a0):W (Hq a0 a1) (fun r=>True):=by
 unfold Hq
 try simp only [jn]
 have:=AY k_a0
 refine W.it (fun(v:Int)=>0≤v∧(v≤(a0.length:Int)∨v≤0)) (fun v=>((a0.length:Int) - v).toNat) (by omega) (by omega) (fun i_t5_3 hv=>?_)
 unfold QK
 refine W.if (fun h=>?_) (fun _=>W.ex (W.rt trivial))
 try simp only [bz]at h
 refine W.bd (W.idx (by omega)) fun e7 _=>W.if (fun _=>W.ex (W.rt trivial)) (fun h=>?_)
 try simp only [bz]at h
 have ww_1:Ac (i_t5_3+(1:Int))=i_t5_3+(1:Int):=Af (by omega) (by omega)
 exact W.nx (by(try dsimp only);first | omega | (and_intros<;>first | omega | assumption) | (simp;omega)) (by(try dsimp only);omega)
theorem LZ:W (Es) (fun r=>r.length=6∧ ∀ y∈r,y.length≤40):=by
 unfold Es
 refine W.rt ?_
 have ll_1:Qv.length=8:=rfl
 have ll_2:UC.length=7:=rfl
 have ll_3:Xt.length=6:=rfl
 have ll_4:aY.length=5:=rfl
 have ll_5:aZ.length=5:=rfl
 have ll_6:gM.length=4:=rfl
 exact⟨rfl,of_decide_eq_true (by kernel_rfl)⟩
theorem S8 {a0:Int} {a1:Int} (p_0:a1≤1000):W (N0 a0 a1) (fun r=>True):=by
 unfold N0
 try simp only [jn]
 refine W.it (fun(v:Int×Int)=>0≤v.2∧(v.2≤a1∨v.2≤0)) (fun v=>(a1 - v.2).toNat) ?_ ?_ (fun v hv=>?_)
 ·(try dsimp only);first | omega | (simp;omega) | (and_intros<;>first | omega | assumption | (simp;omega) | simp)
 ·(try dsimp only);first | omega | (simp;omega) | (and_intros<;>first | omega | assumption | (simp;omega) | simp)
 ·obtain⟨mask_t0_5,k_t5_6⟩:=v
  replace hv:0≤k_t5_6∧(k_t5_6≤a1∨k_t5_6≤0):=hv
  show W (PA a1 mask_t0_5 k_t5_6) _
  unfold PA
  refine W.if (fun h=>?_) (fun _=>W.ex (W.rt trivial))
  try simp only [bz]at h
  have ww_1:Ac (k_t5_6+(1:Int))=k_t5_6+(1:Int):=Af (by omega) (by omega)
  exact W.nx (by(try dsimp only);first | omega | (and_intros<;>first | omega | assumption) | (simp;omega)) (by(try dsimp only);omega)
theorem i8 {a0:Int}:W (XF a0) (fun r=>True):=by
 unfold XF
 refine W.lt fun b1 bb_1=>W.rt trivial
theorem Yr {a0:A1}:W (G9 a0) (fun r=>True):=by
 unfold G9
 exact W.rt trivial
theorem UY {a0:Int} {a1:Int} {a2:Int}:W (Ke a0 a1 a2) (fun r=>True):=by
 unfold Ke
 try simp only [jn]
 refine W.lt fun b1 bb_1=>W.lt fun b2 bb_2=>W.lt fun b3 bb_3=>W.if (fun _=>W.rt trivial) (fun h=>?_)
 try simp only [bb_1,bb_2,bb_3,bz]at h
 refine W.it (fun(v:Int×Int×Int)=>0≤v.2.2∧(v.2.2≤(6:Int)∨v.2.2≤0)) (fun v=>((6:Int) - v.2.2).toNat) ?_ ?_ (fun v hv=>?_)
 ·(try dsimp only);first | omega | (simp;omega) | (and_intros<;>first | omega | assumption | (simp;omega) | simp)
 ·(try dsimp only);first | omega | (simp;omega) | (and_intros<;>first | omega | assumption | (simp;omega) | simp)
 ·obtain⟨a_t0_9,b_t1_10,i_t7_11⟩:=v
  replace hv:0≤i_t7_11∧(i_t7_11≤(6:Int)∨i_t7_11≤0):=hv
  show W (Jv a_t0_9 b_t1_10 i_t7_11) _
  unfold Jv
  refine W.if (fun h=>?_) (fun _=>W.ex (W.rt trivial))
  try simp only [bb_1,bb_2,bb_3,bz]at h
  refine W.lt fun b15 bb_4=>W.if (fun _=>W.ex (W.rt trivial)) (fun h=>?_)
  try simp only [bb_1,bb_2,bb_3,bb_4,bz]at h
  have ww_5:Ac (i_t7_11+(1:Int))=i_t7_11+(1:Int):=Af (by omega) (by omega)
  exact W.nx (by(try dsimp only);first | omega | (and_intros<;>first | omega | assumption) | (simp;omega)) (by(try dsimp only);omega)
theorem Nr {a0:Az}:W (Hr a0) (fun r=>r=true→0≤a0.Kind∧a0.Kind≤3):=by
 unfold Hr
 refine W.lt fun b1 bb_1=>W.lt fun b2 bb_2=>W.lt fun b3 bb_3=>W.if (fun h=>?_) (fun h=>?_)
 ·try simp only [bb_1,bb_2,bb_3,bz]at h
  refine W.rt ?_
  first | assumption | omega | (simp only [bb_1,bb_2,bb_3,bz];omega) | (simp only [bb_1,bb_2,bb_3,bz];intros;omega) | (intros;simp only [bb_1,bb_2,bb_3,bz]at *;omega) | exact⟨by simp,by simp⟩ | decide | simp_all
 ·try simp only [bb_1,bb_2,bb_3,bz]at h
  refine W.lt fun b5 bb_4=>W.rt ?_
  first | assumption | omega | (simp only [bb_1,bb_2,bb_3,bb_4,bz];omega) | (simp only [bb_1,bb_2,bb_3,bb_4,bz];intros;omega) | (intros;simp only [bb_1,bb_2,bb_3,bb_4,bz]at *;omega) | exact⟨by simp,by simp⟩ | decide | simp_all
theorem mw {a0:BI}:W (QL a0) (fun r=>True):=by
 unfold QL
 try simp only [jn]
 refine W.if (fun h=>?_) (fun h=>?_)
 ·try simp only [bz]at h
  unfold DR
  try simp only [jn]
  refine W.if (fun _=>W.rt trivial) (fun h=>?_)
  try simp only [bz]at h
  refine W.if (fun h=>?_) (fun h=>?_)
  ·try simp only [bz]at h
   unfold BU
   try simp only [jn]
   refine W.if (fun _=>W.rt trivial) (fun h=>?_)
   try simp only [bz]at h
   refine W.if (fun _=>W.rt trivial) (fun h=>?_)
   try simp only [bz]at h
   refine W.if (fun h=>?_) (fun h=>?_)
   ·try simp only [bz]at h
    unfold AW
    try simp only [jn]
    exact W.if (fun _=>W.rt trivial) (fun _=>W.rt trivial)
   ·try simp only [bz]at h
    unfold AW
    try simp only [jn]
    exact W.if (fun _=>W.rt trivial) (fun _=>W.rt trivial)
  ·try simp only [bz]at h
   unfold BU
   try simp only [jn]
   refine W.if (fun _=>W.rt trivial) (fun h=>?_)
   try simp only [bz]at h
   refine W.if (fun _=>W.rt trivial) (fun h=>?_)
   try simp only [bz]at h
   refine W.if (fun h=>?_) (fun h=>?_)
   ·try simp only [bz]at h
    unfold AW
    try simp only [jn]
    exact W.if (fun _=>W.rt trivial) (fun _=>W.rt trivial)
   ·try simp only [bz]at h
    unfold AW
    try simp only [jn]
    exact W.if (fun _=>W.rt trivial) (fun _=>W.rt trivial)
 ·try simp only [bz]at h
  refine W.if (fun h=>?_) (fun h=>?_)
  ·try simp only [bz]at h
   unfold DR
   try simp only [jn]
   refine W.if (fun _=>W.rt trivial) (fun h=>?_)
   try simp only [bz]at h
   refine W.if (fun h=>?_) (fun h=>?_)
   ·try simp only [bz]at h
    unfold BU
    try simp only [jn]
    refine W.if (fun _=>W.rt trivial) (fun h=>?_)
    try simp only [bz]at h
    refine W.if (fun _=>W.rt trivial) (fun h=>?_)
    try simp only [bz]at h
    refine W.if (fun h=>?_) (fun h=>?_)
    ·try simp only [bz]at h
     unfold AW
     try simp only [jn]
     exact W.if (fun _=>W.rt trivial) (fun _=>W.rt trivial)
    ·try simp only [bz]at h
     unfold AW
     try simp only [jn]
     exact W.if (fun _=>W.rt trivial) (fun _=>W.rt trivial)
   ·try simp only [bz]at h
    unfold BU
    try simp only [jn]
    refine W.if (fun _=>W.rt trivial) (fun h=>?_)
    try simp only [bz]at h
    refine W.if (fun _=>W.rt trivial) (fun h=>?_)
    try simp only [bz]at h
    refine W.if (fun h=>?_) (fun h=>?_)
    ·try simp only [bz]at h
     unfold AW
     try simp only [jn]
     exact W.if (fun _=>W.rt trivial) (fun _=>W.rt trivial)
    ·try simp only [bz]at h
     unfold AW
     try simp only [jn]
     exact W.if (fun _=>W.rt trivial) (fun _=>W.rt trivial)
  ·try simp only [bz]at h
   refine W.if (fun h=>?_) (fun h=>?_)
   ·try simp only [bz]at h
    unfold DR
    try simp only [jn]
    refine W.if (fun _=>W.rt trivial) (fun h=>?_)
    try simp only [bz]at h
    refine W.if (fun h=>?_) (fun h=>?_)
    ·try simp only [bz]at h
     unfold BU
     try simp only [jn]
     refine W.if (fun _=>W.rt trivial) (fun h=>?_)
     try simp only [bz]at h
     refine W.if (fun _=>W.rt trivial) (fun h=>?_)
     try simp only [bz]at h
     refine W.if (fun h=>?_) (fun h=>?_)
     ·try simp only [bz]at h
      unfold AW
      try simp only [jn]
      exact W.if (fun _=>W.rt trivial) (fun _=>W.rt trivial)
     ·try simp only [bz]at h
      unfold AW
      try simp only [jn]
      exact W.if (fun _=>W.rt trivial) (fun _=>W.rt trivial)
    ·try simp only [bz]at h
     unfold BU
     try simp only [jn]
     refine W.if (fun _=>W.rt trivial) (fun h=>?_)
     try simp only [bz]at h
     refine W.if (fun _=>W.rt trivial) (fun h=>?_)
     try simp only [bz]at h
     refine W.if (fun h=>?_) (fun h=>?_)
     ·try simp only [bz]at h
      unfold AW
      try simp only [jn]
      exact W.if (fun _=>W.rt trivial) (fun _=>W.rt trivial)
     ·try simp only [bz]at h
      unfold AW
      try simp only [jn]
      exact W.if (fun _=>W.rt trivial) (fun _=>W.rt trivial)
   ·try simp only [bz]at h
    refine W.if (fun h=>?_) (fun h=>?_)
    ·try simp only [bz]at h
     unfold DR
     try simp only [jn]
     refine W.if (fun _=>W.rt trivial) (fun h=>?_)
     try simp only [bz]at h
     refine W.if (fun h=>?_) (fun h=>?_)
     ·try simp only [bz]at h
      unfold BU
      try simp only [jn]
      refine W.if (fun _=>W.rt trivial) (fun h=>?_)
      try simp only [bz]at h
      refine W.if (fun _=>W.rt trivial) (fun h=>?_)
      try simp only [bz]at h
      refine W.if (fun h=>?_) (fun h=>?_)
      ·try simp only [bz]at h
       unfold AW
       try simp only [jn]
       exact W.if (fun _=>W.rt trivial) (fun _=>W.rt trivial)
      ·try simp only [bz]at h
       unfold AW
       try simp only [jn]
       exact W.if (fun _=>W.rt trivial) (fun _=>W.rt trivial)
     ·try simp only [bz]at h
      unfold BU
      try simp only [jn]
      refine W.if (fun _=>W.rt trivial) (fun h=>?_)
      try simp only [bz]at h
      refine W.if (fun _=>W.rt trivial) (fun h=>?_)
      try simp only [bz]at h
      refine W.if (fun h=>?_) (fun h=>?_)
      ·try simp only [bz]at h
       unfold AW
       try simp only [jn]
       exact W.if (fun _=>W.rt trivial) (fun _=>W.rt trivial)
      ·try simp only [bz]at h
       unfold AW
       try simp only [jn]
       exact W.if (fun _=>W.rt trivial) (fun _=>W.rt trivial)
    ·try simp only [bz]at h
     refine W.if (fun h=>?_) (fun h=>?_)
     ·try simp only [bz]at h
      unfold DR
      try simp only [jn]
      refine W.if (fun _=>W.rt trivial) (fun h=>?_)
      try simp only [bz]at h
      refine W.if (fun h=>?_) (fun h=>?_)
      ·try simp only [bz]at h
       unfold BU
       try simp only [jn]
       refine W.if (fun _=>W.rt trivial) (fun h=>?_)
       try simp only [bz]at h
       refine W.if (fun _=>W.rt trivial) (fun h=>?_)
       try simp only [bz]at h
       refine W.if (fun h=>?_) (fun h=>?_)
       ·try simp only [bz]at h
        unfold AW
        try simp only [jn]
        exact W.if (fun _=>W.rt trivial) (fun _=>W.rt trivial)
       ·try simp only [bz]at h
        unfold AW
        try simp only [jn]
        exact W.if (fun _=>W.rt trivial) (fun _=>W.rt trivial)
      ·try simp only [bz]at h
       unfold BU
       try simp only [jn]
       refine W.if (fun _=>W.rt trivial) (fun h=>?_)
       try simp only [bz]at h
       refine W.if (fun _=>W.rt trivial) (fun h=>?_)
       try simp only [bz]at h
       refine W.if (fun h=>?_) (fun h=>?_)
       ·try simp only [bz]at h
        unfold AW
        try simp only [jn]
        exact W.if (fun _=>W.rt trivial) (fun _=>W.rt trivial)
       ·try simp only [bz]at h
        unfold AW
        try simp only [jn]
        exact W.if (fun _=>W.rt trivial) (fun _=>W.rt trivial)
     ·try simp only [bz]at h
      unfold DR
      try simp only [jn]
      refine W.if (fun _=>W.rt trivial) (fun h=>?_)
      try simp only [bz]at h
      refine W.if (fun h=>?_) (fun h=>?_)
      ·try simp only [bz]at h
       unfold BU
       try simp only [jn]
       refine W.if (fun _=>W.rt trivial) (fun h=>?_)
       try simp only [bz]at h
       refine W.if (fun _=>W.rt trivial) (fun h=>?_)
       try simp only [bz]at h
       refine W.if (fun h=>?_) (fun h=>?_)
       ·try simp only [bz]at h
        unfold AW
        try simp only [jn]
        exact W.if (fun _=>W.rt trivial) (fun _=>W.rt trivial)
       ·try simp only [bz]at h
        unfold AW
        try simp only [jn]
        exact W.if (fun _=>W.rt trivial) (fun _=>W.rt trivial)
      ·try simp only [bz]at h
       unfold BU
       try simp only [jn]
       refine W.if (fun _=>W.rt trivial) (fun h=>?_)
       try simp only [bz]at h
       refine W.if (fun _=>W.rt trivial) (fun h=>?_)
       try simp only [bz]at h
       refine W.if (fun h=>?_) (fun h=>?_)
       ·try simp only [bz]at h
        unfold AW
        try simp only [jn]
        exact W.if (fun _=>W.rt trivial) (fun _=>W.rt trivial)
       ·try simp only [bz]at h
        unfold AW
        try simp only [jn]
        exact W.if (fun _=>W.rt trivial) (fun _=>W.rt trivial)
theorem UZ {a0:Int}:W (N1 a0) (fun r=>True):=by
 unfold N1
 refine W.lt fun b1 bb_1=>W.lt fun b2 bb_2=>W.rt trivial
theorem sH {a0:Int}:W (dg a0) (fun r=>True):=by
 unfold dg
 refine W.lt fun b1 bb_1=>W.rt trivial
theorem LA {a0:Int}:W (Kf a0) (fun r=>r.length≤10):=by
 unfold Kf
 refine W.if (fun h=>?_) (fun h=>?_)
 ·try simp only [bz]at h
  refine W.rt ?_
  have ll_1:a6.length=5:=rfl
  first | omega | decide
 ·try simp only [bz]at h
  refine W.if (fun h=>?_) (fun h=>?_)
  ·try simp only [bz]at h
   refine W.rt ?_
   have ll_2:Xv.length=6:=rfl
   first | omega | decide
  ·try simp only [bz]at h
   refine W.if (fun h=>?_) (fun h=>?_)
   ·try simp only [bz]at h
    refine W.rt ?_
    have ll_3:nL.length=3:=rfl
    first | omega | decide
   ·try simp only [bz]at h
    refine W.if (fun h=>?_) (fun h=>?_)
    ·try simp only [bz]at h
     refine W.rt ?_
     have ll_4:gN.length=4:=rfl
     first | omega | decide
    ·try simp only [bz]at h
     refine W.if (fun h=>?_) (fun h=>?_)
     ·try simp only [bz]at h
      refine W.rt ?_
      have ll_5:UE.length=7:=rfl
      first | omega | decide
     ·try simp only [bz]at h
      refine W.rt ?_
      first | omega | decide
theorem ja:W (N2) (fun r=>r.length=17∧ ∀ y∈r,y.length≤40):=by
 unfold N2
 refine W.rt ?_
 have ll_1:Xw.length=6:=rfl
 have ll_2:a7.length=5:=rfl
 have ll_3:a8.length=5:=rfl
 have ll_4:Qx.length=8:=rfl
 have ll_5:UF.length=7:=rfl
 have ll_6:J5.length=12:=rfl
 have ll_7:IZ.length=13:=rfl
 have ll_8:Xx.length=6:=rfl
 have ll_9:Qy.length=8:=rfl
 have ll_10:Xy.length=6:=rfl
 have ll_11:Qz.length=8:=rfl
 have ll_12:Xz.length=6:=rfl
 have ll_13:XA.length=6:=rfl
 have ll_14:UG.length=7:=rfl
 have ll_15:OE.length=9:=rfl
 have ll_16:QA.length=8:=rfl
 have ll_17:LH.length=11:=rfl
 exact⟨rfl,of_decide_eq_true (by kernel_rfl)⟩
theorem Vn:W (F7) (fun r=>r.length=6∧ ∀ y∈r,y.length≤40):=by
 unfold F7
 refine W.rt ?_
 have ll_1:UH.length=7:=rfl
 have ll_2:ME.length=10:=rfl
 have ll_3:J6.length=12:=rfl
 have ll_4:QB.length=8:=rfl
 have ll_5:QC.length=8:=rfl
 exact⟨rfl,of_decide_eq_true (by kernel_rfl)⟩
theorem Ys:W (Hb) (fun r=>r.length=3∧ ∀ y∈r,y.length≤40):=by
 unfold Hb
 refine W.rt ?_
 have ll_1:bb.length=5:=rfl
 have ll_2:XB.length=6:=rfl
 exact⟨rfl,of_decide_eq_true (by kernel_rfl)⟩
theorem Vo:W (F8) (fun r=>r.length=3∧ ∀ y∈r,y.length≤40):=by
 unfold F8
 refine W.rt ?_
 have ll_1:gO.length=4:=rfl
 have ll_2:bc.length=5:=rfl
 exact⟨rfl,of_decide_eq_true (by kernel_rfl)⟩
theorem Yt:W (Hc) (fun r=>r.length=3∧ ∀ y∈r,y.length≤40):=by
 unfold Hc
 refine W.rt ?_
 have ll_1:XC.length=6:=rfl
 have ll_2:QD.length=8:=rfl
 exact⟨rfl,of_decide_eq_true (by kernel_rfl)⟩
theorem Kv {a0:Int} {a1:Int} (p_0:a1≤1000):W (I4 a0 a1) (fun r=>True):=by
 unfold I4
 try simp only [jn]
 refine W.it (fun(v:Int×Int)=>0≤v.2∧(v.2≤a1∨v.2≤0)) (fun v=>(a1 - v.2).toNat) ?_ ?_ (fun v hv=>?_)
 ·(try dsimp only);first | omega | (simp;omega) | (and_intros<;>first | omega | assumption | (simp;omega) | simp)
 ·(try dsimp only);first | omega | (simp;omega) | (and_intros<;>first | omega | assumption | (simp;omega) | simp)
 ·obtain⟨mask_t0_5,k_t5_6⟩:=v
  replace hv:0≤k_t5_6∧(k_t5_6≤a1∨k_t5_6≤0):=hv
  show W (PB a1 mask_t0_5 k_t5_6) _
  unfold PB
  refine W.if (fun h=>?_) (fun _=>W.ex (W.rt trivial))
  try simp only [bz]at h
  have ww_1:Ac (k_t5_6+(1:Int))=k_t5_6+(1:Int):=Af (by omega) (by omega)
  exact W.nx (by(try dsimp only);first | omega | (and_intros<;>first | omega | assumption) | (simp;omega)) (by(try dsimp only);omega)
theorem jb:W (N3) (fun r=>r.length=4∧ ∀ y∈r,y.length≤40):=by
 unfold N3
 refine W.rt ?_
 have ll_1:bf.length=2:=rfl
 have ll_2:bh.length=2:=rfl
 have ll_3:nM.length=1:=rfl
 exact⟨rfl,of_decide_eq_true (by kernel_rfl)⟩
theorem RK {a0:Int} (p_0:0≤a0∧a0≤18446744073709551615):W (EI a0) (fun r=>r.length≤20):=by
 refine⟨_,(show EI a0=kj a0 from rfl).trans (oI p_0.1 p_0.2),cu 19 _ (by omega)⟩
theorem my {a0:List (List UInt8)} {a1:List UInt8} (k_a0:B5 16 Fx a0) (k_a1:Fx a1) (p_0:a0.length≤50) (p_1: ∀ y∈a0,y.length≤600) (p_2:a1.length≤10):W (QM a0 a1) (fun r=>r.length≤30500):=by
 unfold QM
 try simp only [jn]
 have:=AY k_a0
 refine W.it (fun(v:(List UInt8)×Int)=>0≤v.2∧(v.2≤a0.length∨v.2≤0)∧(v.1.length:Int)≤610*v.2) (fun v=>((a0.length:Int) - v.2).toNat) ?_ ?_ (fun v hv=>?_)
 ·(try dsimp only);first | omega | (simp;omega) | (and_intros<;>first | omega | assumption | (simp;omega) | simp)
 ·(try dsimp only);first | omega | (simp;omega) | (and_intros<;>first | omega | assumption | (simp;omega) | simp)
 ·obtain⟨s_t5_5,i_t6_6⟩:=v
  replace hv:0≤i_t6_6∧(i_t6_6≤a0.length∨i_t6_6≤0)∧(s_t5_5.length:Int)≤610*i_t6_6:=hv
  show W (MJ a0 a1 s_t5_5 i_t6_6) _
  unfold MJ
  try simp only [jn]
  refine W.if (fun h=>?_) (fun h=>?_)
  ·try simp only [bz]at h
   refine W.if (fun h=>?_) (fun h=>?_)
   ·try simp only [bz]at h
    have:=AN k_a1
    refine W.bd (W.cat (by first | omega | (simp;omega))) (fun s15 q_s15=>?_)
    replace q_s15:s15.length=(s_t5_5).length +(a1).length :=q_s15.2
    unfold KY
    refine W.bd (W.idx (by omega)) (fun e12 q_e12=>?_)
    have ll_1:=p_1 e12 q_e12.1
    have:=AN (show Fx e12 from Bp k_a0 q_e12.1)
    refine W.bd (W.cat (by first | omega | (simp;omega))) (fun s13 q_s13=>?_)
    replace q_s13:s13.length=(s15).length +(e12).length :=q_s13.2
    have ww_2:Ac (i_t6_6+(1:Int))=i_t6_6+(1:Int):=Af (by omega) (by omega)
    exact W.nx (by(try dsimp only);first | omega | (and_intros<;>first | omega | assumption) | (simp;omega)) (by(try dsimp only);omega)
   ·try simp only [bz]at h
    unfold KY
    refine W.bd (W.idx (by omega)) (fun e12 q_e12=>?_)
    have ll_3:=p_1 e12 q_e12.1
    have:=AN (show Fx e12 from Bp k_a0 q_e12.1)
    refine W.bd (W.cat (by first | omega | (simp;omega))) (fun s13 q_s13=>?_)
    replace q_s13:s13.length=(s_t5_5).length +(e12).length :=q_s13.2
    have ww_4:Ac (i_t6_6+(1:Int))=i_t6_6+(1:Int):=Af (by omega) (by omega)
    exact W.nx (by(try dsimp only);first | omega | (and_intros<;>first | omega | assumption) | (simp;omega)) (by(try dsimp only);omega)
  ·try simp only [bz]at h
   refine W.ex ?_
   try dsimp only [Sum.elim_inl,Sum.elim_inr]
   unfold UK
   refine W.rt ?_
   first | omega | decide
theorem Yu {a0:Int}:W (MK a0) (fun r=>True):=by
 unfold MK
 exact W.if (fun _=>W.rt trivial) (fun _=>W.if (fun _=>W.rt trivial) (fun _=>W.if (fun _=>W.rt trivial) (fun _=>W.if (fun _=>W.rt trivial) (fun _=>W.if (fun _=>W.rt trivial) (fun _=>W.if (fun _=>W.rt trivial) (fun _=>W.if (fun _=>W.rt trivial) (fun _=>W.if (fun _=>W.rt trivial) (fun _=>W.if (fun _=>W.rt trivial) (fun _=>W.if (fun _=>W.rt trivial) (fun _=>W.if (fun _=>W.rt trivial) (fun _=>W.if (fun _=>W.rt trivial) (fun _=>W.if (fun _=>W.rt trivial) (fun _=>W.if (fun _=>W.rt trivial) (fun _=>W.rt trivial))))))))))))))
theorem RL {a0:Int}:W (Ia a0) (fun r=>True):=by
 unfold Ia
 refine W.lt fun b1 bb_1=>W.lt fun b2 bb_2=>W.lt fun b3 bb_3=>W.lt fun b4 bb_4=>W.lt fun b5 bb_5=>W.rt trivial
theorem jc {a0:BB}:W (N4 a0) (fun r=>True):=by
 unfold N4
 refine W.lt fun b1 bb_1=>W.if (fun _=>W.rt trivial) (fun h=>?_)
 try simp only [bb_1,bz]at h
 refine W.lt fun b3 bb_2=>W.if (fun h=>?_) (fun _=>W.rt trivial)
 try simp only [bb_1,bb_2,bz]at h
 refine W.lt fun b5 bb_3=>W.rt trivial
theorem mz {a0:Int}:W (QO a0) (fun r=>True):=by
 unfold QO
 refine W.lt fun b1 bb_1=>W.if (fun _=>W.rt trivial) (fun h=>?_)
 try simp only [bb_1,bz]at h
 have ll_2:FL.length=6:=rfl
 have ll_3:I1.length=7:=rfl
 have ll_4:J8.length=4:=rfl
 have ll_5:J9.length=4:=rfl
 have ll_6:I2.length=7:=rfl
 have ll_7:Ka.length=4:=rfl
 have ll_8:Kb.length=4:=rfl
 have ll_9:NY.length=3:=rfl
 have ll_10:Ho.length=5:=rfl
 have ll_11:NZ.length=3:=rfl
 have ll_12:Kc.length=4:=rfl
 have ll_13:FM.length=6:=rfl
 have ll_14:VQ.length=3:=rfl
 have ll_15:QE.length=4:=rfl
 have ll_16:I3.length=7:=rfl
 have ll_17:QF.length=4:=rfl
 have ll_18:KU.length=6:=rfl
 have ll_19:F6.length=9:=rfl
 have ll_20:QG.length=4:=rfl
 have ll_21:QH.length=4:=rfl
 have ll_22:KV.length=6:=rfl
 have ll_23:KW.length=6:=rfl
 have ll_24:QI.length=4:=rfl
 have ll_25:VR.length=3:=rfl
 have ll_26:KX.length=6:=rfl
 have ll_27:Hp.length=5:=rfl
 have ll_28:([FL,I1,J8,J9,I2,Ka,Kb,NY,Ho,NZ,Kc,FM,VQ,QE,I3,QF,KU,F6,QG,QH,KV,KW,QI,VR,KX,Hp]:List (List UInt8)).length =26:=rfl
 refine W.bd (W.idx (by have ww_29:Ac (a0 - (1:Int))=a0 - (1:Int):=Af (by omega) (by omega);omega)) fun e3 q_e3=>W.re q_e3.2.2 ?_
 exact W.rt trivial
end Go.PL
