/- Functions that answer: proofs. -/
import Derived.Test.YtiddnfpjgojoaaaGreatDoorPlEdB
import Derived.Test.YtiddnfpjgojoaaaGreatDoorPlEdF1
import Derived.Test.YtiddnfpjgojoaaaGreatDoorPlEdF2
import Derived.Test.YtiddnfpjgojoaaaGreatDoorPlEdF4
import Derived.Test.YtiddnfpjgojoaaaGreatDoorPlEdF5
import Derived.Test.YtiddnfpjgojoaaaGreatDoorPlEdF6
import Derived.Test.YtiddnfpjgojoaaaGreatDoorPlEtL
import Derived.Test.YtiddnfpjgojoaaaGreatDoorPlEtW0
import Derived.Test.YtiddnfpjgojoaaaGreatDoorPlEtW1
namespace Go.PL
open Go
set_option maxRecDepth 100000
set_option linter.all false
set_option maxHeartbeats 2000000
theorem U0 {a0:List (Int)} {a1:Int} (k_a0:B5 8 IR a0):W (Hs a0 a1) (fun r=>True):=by
 unfold Hs
 try simp only [jn]
 have:=AY k_a0
 refine W.it (fun(v:Int×Int)=>0≤v.2∧(v.2≤(a0.length:Int)∨v.2≤0)) (fun v=>((a0.length:Int) - v.2).toNat) ?_ ?_ (fun v hv=>?_)
 ·(try dsimp only);first | omega | (simp;omega) | (and_intros<;>first | omega | assumption | (simp;omega) | simp)
 ·(try dsimp only);first | omega | (simp;omega) | (and_intros<;>first | omega | assumption | (simp;omega) | simp)
 ·obtain⟨k_t5_5,i_t6_6⟩:=v
  replace hv:0≤i_t6_6∧(i_t6_6≤(a0.length:Int)∨i_t6_6≤0):=hv
  show W (K0 a0 a1 k_t5_5 i_t6_6) _
  unfold K0
  try simp only [jn]
  refine W.if (fun h=>?_) (fun _=>W.ex (W.rt trivial))
  try simp only [bz]at h
  refine W.bd (W.idx (by omega)) fun e12 _=>W.if (fun h=>?_) (fun h=>?_)
  ·try simp only [bz]at h
   unfold Jx
   have ww_1:Ac (i_t6_6+(1:Int))=i_t6_6+(1:Int):=Af (by omega) (by omega)
   exact W.nx (by(try dsimp only);first | omega | (and_intros<;>first | omega | assumption) | (simp;omega)) (by(try dsimp only);omega)
  ·try simp only [bz]at h
   unfold Jx
   have ww_2:Ac (i_t6_6+(1:Int))=i_t6_6+(1:Int):=Af (by omega) (by omega)
   exact W.nx (by(try dsimp only);first | omega | (and_intros<;>first | omega | assumption) | (simp;omega)) (by(try dsimp only);omega)
theorem sJ {a0:A3 (Int)}:W (dl a0) (fun r=>True):=by
 unfold dl
 try simp only [jn]
 refine W.it (fun(v:Int)=>0≤v∧(v≤(3:Int)∨v≤0)) (fun v=>((3:Int) - v).toNat) (by omega) (by omega) (fun i_t3_3 hv=>?_)
 unfold bt
 refine W.if (fun h=>?_) (fun _=>W.ex (W.rt trivial))
 try simp only [bz]at h
 have ll_1:a0.l.length=3:=rfl
 refine W.bd (W.idx (by omega)) fun e7 q_e7=>W.re q_e7.2.2 ?_
 refine W.gb (fun gg_2=>by try simp only [bz]at gg_2;exact W.idx (by omega)) (fun e9 _=>?_)
 refine W.gb (fun gg_3=>by try simp only [bz]at gg_3;exact W.idx (by omega)) (fun e10 _=>?_)
 refine W.lt fun b11 bb_4=>W.if (fun _=>W.ex (W.rt trivial)) (fun h=>?_)
 try simp only [bb_4,bz]at h
 have ww_5:Ac (i_t3_3+(1:Int))=i_t3_3+(1:Int):=Af (by omega) (by omega)
 exact W.nx (by(try dsimp only);first | omega | (and_intros<;>first | omega | assumption) | (simp;omega)) (by(try dsimp only);omega)
theorem mE {a0:AO}:W (QY a0) (fun r=>True):=by
 unfold QY
 exact W.rt trivial
theorem jg {a0:AO}:W (N8 a0) (fun r=>True):=by
 unfold N8
 exact W.rt trivial
theorem eC {a0:Ao} {a1:Int} (k_a0:Bk a0):W (Ic a0 a1) (fun r=>True):=by
 unfold Ic
 try simp only [jn]
 have:=AY (IA k_a0)
 refine W.it (fun(v:Int×Int)=>0≤v.2∧(v.2≤(a0.Stack.length:Int)∨v.2≤0)) (fun v=>((a0.Stack.length:Int) - v.2).toNat) ?_ ?_ (fun v hv=>?_)
 ·(try dsimp only);first | omega | (simp;omega) | (and_intros<;>first | omega | assumption | (simp;omega) | simp)
 ·(try dsimp only);first | omega | (simp;omega) | (and_intros<;>first | omega | assumption | (simp;omega) | simp)
 ·obtain⟨n_t5_5,i_t6_6⟩:=v
  replace hv:0≤i_t6_6∧(i_t6_6≤(a0.Stack.length:Int)∨i_t6_6≤0):=hv
  show W (Jy a0 a1 n_t5_5 i_t6_6) _
  unfold Jy
  try simp only [jn]
  refine W.if (fun h=>?_) (fun _=>W.ex (W.rt trivial))
  try simp only [bz]at h
  refine W.bd (W.idx (by omega)) fun e12 _=>W.gb (fun gg_1=>by try simp only [bz]at gg_1;exact W.idx (by omega)) (fun e13 _=>?_)
  refine W.lt fun b14 bb_2=>W.if (fun h=>?_) (fun h=>?_)
  ·try simp only [bb_2,bz]at h
   unfold Ib
   have ww_3:Ac (i_t6_6+(1:Int))=i_t6_6+(1:Int):=Af (by omega) (by omega)
   exact W.nx (by(try dsimp only);first | omega | (and_intros<;>first | omega | assumption) | (simp;omega)) (by(try dsimp only);omega)
  ·try simp only [bb_2,bz]at h
   unfold Ib
   have ww_4:Ac (i_t6_6+(1:Int))=i_t6_6+(1:Int):=Af (by omega) (by omega)
   exact W.nx (by(try dsimp only);first | omega | (and_intros<;>first | omega | assumption) | (simp;omega)) (by(try dsimp only);omega)
theorem IB {a0:List Int} (k_a0:B5 8 IR a0):W (GB a0) (fun r=>B5 8 IR r):=by
 unfold GB
 have h:=k_a0.1
 refine W.bd (W.app (by simpa using h) (by unfold maxLen;simp;omega)) (fun l1 q=>?_)
 refine W.rt ?_
 rw [q];exact k_a0
theorem Nt {a0:List (BI)} {a1:List (BI)} (k_a0:B5 176 CC a0) (k_a1:B5 176 CC a1):W (E9 a0 a1) (fun r=>True):=by
 unfold E9
 try simp only [jn]
 have:=AY k_a0
 have:=AY k_a1
 refine W.if (fun _=>W.rt trivial) (fun h=>?_)
 try simp only [bz]at h
 refine W.it (fun(v:Int)=>0≤v∧(v≤(a0.length:Int)∨v≤0)) (fun v=>((a0.length:Int) - v).toNat) (by omega) (by omega) (fun i_t5_4 hv=>?_)
 unfold LJ
 refine W.if (fun h=>?_) (fun _=>W.ex (W.rt trivial))
 try simp only [bz]at h
 refine W.bd (W.idx (by omega)) fun e8 _=>W.bd (W.idx (by omega)) fun e9 _=>W.if (fun _=>W.ex (W.rt trivial)) (fun h=>?_)
 try simp only [bz]at h
 have ww_1:Ac (i_t5_4+(1:Int))=i_t5_4+(1:Int):=Af (by omega) (by omega)
 exact W.nx (by(try dsimp only);first | omega | (and_intros<;>first | omega | assumption) | (simp;omega)) (by(try dsimp only);omega)
theorem sK {a0:List (Int)} (k_a0:B5 8 IR a0):W (dp a0) (fun r=>True):=by
 unfold dp
 try simp only [jn]
 have:=AY k_a0
 refine W.it (fun(v:Int)=>1≤v∧(v≤(a0.length:Int)∨v≤1)) (fun v=>((a0.length:Int) - v).toNat) (by omega) (by omega) (fun i_t3_3 hv=>?_)
 unfold bu
 refine W.if (fun h=>?_) (fun _=>W.ex (W.rt trivial))
 try simp only [bz]at h
 refine W.bd (W.idx (by have ww_1:Ac (i_t3_3 - (1:Int))=i_t3_3 - (1:Int):=Af (by omega) (by omega);omega)) fun e7 _=>W.bd (W.idx (by omega)) fun e8 _=>W.if (fun _=>W.ex (W.rt trivial)) (fun h=>?_)
 try simp only [bz]at h
 have ww_2:Ac (i_t3_3+(1:Int))=i_t3_3+(1:Int):=Af (by omega) (by omega)
 exact W.nx (by(try dsimp only);first | omega | (and_intros<;>first | omega | assumption) | (simp;omega)) (by(try dsimp only);omega)
theorem Ci {a0:Int}:W (Cj a0) (fun r=>True):=by
 unfold Cj
 exact W.if (fun _=>W.rt trivial) (fun _=>W.if (fun _=>W.rt trivial) (fun _=>W.rt trivial))
theorem Nu {a0:Int}:W (Dw a0) (fun r=>True):=by
 unfold Dw
 try simp only [jn]
 refine W.if (fun _=>W.rt trivial) (fun h=>?_)
 try simp only [bz]at h
 refine W.if (fun h=>?_) (fun h=>?_)
 ·try simp only [bz]at h
  unfold Fc
  try simp only [jn]
  refine W.if (fun _=>W.rt trivial) (fun h=>?_)
  try simp only [bz]at h
  refine W.if (fun h=>?_) (fun h=>?_)
  ·try simp only [bz]at h
   unfold Cr
   try simp only [jn]
   refine W.if (fun _=>W.rt trivial) (fun h=>?_)
   try simp only [bz]at h
   refine W.if (fun h=>?_) (fun h=>?_)
   ·try simp only [bz]at h
    unfold AX
    exact W.if (fun _=>W.rt trivial) (fun _=>W.if (fun _=>W.rt trivial) (fun _=>W.if (fun _=>W.rt trivial) (fun _=>W.if (fun _=>W.rt trivial) (fun _=>W.if (fun _=>W.rt trivial) (fun _=>W.rt trivial)))))
   ·try simp only [bz]at h
    refine W.if (fun h=>?_) (fun h=>?_)
    ·try simp only [bz]at h
     unfold AX
     exact W.if (fun _=>W.rt trivial) (fun _=>W.if (fun _=>W.rt trivial) (fun _=>W.if (fun _=>W.rt trivial) (fun _=>W.if (fun _=>W.rt trivial) (fun _=>W.if (fun _=>W.rt trivial) (fun _=>W.rt trivial)))))
    ·try simp only [bz]at h
     unfold AX
     exact W.if (fun _=>W.rt trivial) (fun _=>W.if (fun _=>W.rt trivial) (fun _=>W.if (fun _=>W.rt trivial) (fun _=>W.if (fun _=>W.rt trivial) (fun _=>W.if (fun _=>W.rt trivial) (fun _=>W.rt trivial)))))
  ·try simp only [bz]at h
   unfold Cr
   try simp only [jn]
   refine W.if (fun _=>W.rt trivial) (fun h=>?_)
   try simp only [bz]at h
   refine W.if (fun h=>?_) (fun h=>?_)
   ·try simp only [bz]at h
    unfold AX
    exact W.if (fun _=>W.rt trivial) (fun _=>W.if (fun _=>W.rt trivial) (fun _=>W.if (fun _=>W.rt trivial) (fun _=>W.if (fun _=>W.rt trivial) (fun _=>W.if (fun _=>W.rt trivial) (fun _=>W.rt trivial)))))
   ·try simp only [bz]at h
    refine W.if (fun h=>?_) (fun h=>?_)
    ·try simp only [bz]at h
     unfold AX
     exact W.if (fun _=>W.rt trivial) (fun _=>W.if (fun _=>W.rt trivial) (fun _=>W.if (fun _=>W.rt trivial) (fun _=>W.if (fun _=>W.rt trivial) (fun _=>W.if (fun _=>W.rt trivial) (fun _=>W.rt trivial)))))
    ·try simp only [bz]at h
     unfold AX
     exact W.if (fun _=>W.rt trivial) (fun _=>W.if (fun _=>W.rt trivial) (fun _=>W.if (fun _=>W.rt trivial) (fun _=>W.if (fun _=>W.rt trivial) (fun _=>W.if (fun _=>W.rt trivial) (fun _=>W.rt trivial)))))
 ·try simp only [bz]at h
  refine W.if (fun h=>?_) (fun h=>?_)
  ·try simp only [bz]at h
   unfold Fc
   try simp only [jn]
   refine W.if (fun _=>W.rt trivial) (fun h=>?_)
   try simp only [bz]at h
   refine W.if (fun h=>?_) (fun h=>?_)
   ·try simp only [bz]at h
    unfold Cr
    try simp only [jn]
    refine W.if (fun _=>W.rt trivial) (fun h=>?_)
    try simp only [bz]at h
    refine W.if (fun h=>?_) (fun h=>?_)
    ·try simp only [bz]at h
     unfold AX
     exact W.if (fun _=>W.rt trivial) (fun _=>W.if (fun _=>W.rt trivial) (fun _=>W.if (fun _=>W.rt trivial) (fun _=>W.if (fun _=>W.rt trivial) (fun _=>W.if (fun _=>W.rt trivial) (fun _=>W.rt trivial)))))
    ·try simp only [bz]at h
     refine W.if (fun h=>?_) (fun h=>?_)
     ·try simp only [bz]at h
      unfold AX
      exact W.if (fun _=>W.rt trivial) (fun _=>W.if (fun _=>W.rt trivial) (fun _=>W.if (fun _=>W.rt trivial) (fun _=>W.if (fun _=>W.rt trivial) (fun _=>W.if (fun _=>W.rt trivial) (fun _=>W.rt trivial)))))
     ·try simp only [bz]at h
      unfold AX
      exact W.if (fun _=>W.rt trivial) (fun _=>W.if (fun _=>W.rt trivial) (fun _=>W.if (fun _=>W.rt trivial) (fun _=>W.if (fun _=>W.rt trivial) (fun _=>W.if (fun _=>W.rt trivial) (fun _=>W.rt trivial)))))
   ·try simp only [bz]at h
    unfold Cr
    try simp only [jn]
    refine W.if (fun _=>W.rt trivial) (fun h=>?_)
    try simp only [bz]at h
    refine W.if (fun h=>?_) (fun h=>?_)
    ·try simp only [bz]at h
     unfold AX
     exact W.if (fun _=>W.rt trivial) (fun _=>W.if (fun _=>W.rt trivial) (fun _=>W.if (fun _=>W.rt trivial) (fun _=>W.if (fun _=>W.rt trivial) (fun _=>W.if (fun _=>W.rt trivial) (fun _=>W.rt trivial)))))
    ·try simp only [bz]at h
     refine W.if (fun h=>?_) (fun h=>?_)
     ·try simp only [bz]at h
      unfold AX
      exact W.if (fun _=>W.rt trivial) (fun _=>W.if (fun _=>W.rt trivial) (fun _=>W.if (fun _=>W.rt trivial) (fun _=>W.if (fun _=>W.rt trivial) (fun _=>W.if (fun _=>W.rt trivial) (fun _=>W.rt trivial)))))
     ·try simp only [bz]at h
      unfold AX
      exact W.if (fun _=>W.rt trivial) (fun _=>W.if (fun _=>W.rt trivial) (fun _=>W.if (fun _=>W.rt trivial) (fun _=>W.if (fun _=>W.rt trivial) (fun _=>W.if (fun _=>W.rt trivial) (fun _=>W.rt trivial)))))
  ·try simp only [bz]at h
   refine W.if (fun h=>?_) (fun h=>?_)
   ·try simp only [bz]at h
    unfold Fc
    try simp only [jn]
    refine W.if (fun _=>W.rt trivial) (fun h=>?_)
    try simp only [bz]at h
    refine W.if (fun h=>?_) (fun h=>?_)
    ·try simp only [bz]at h
     unfold Cr
     try simp only [jn]
     refine W.if (fun _=>W.rt trivial) (fun h=>?_)
     try simp only [bz]at h
     refine W.if (fun h=>?_) (fun h=>?_)
     ·try simp only [bz]at h
      unfold AX
      exact W.if (fun _=>W.rt trivial) (fun _=>W.if (fun _=>W.rt trivial) (fun _=>W.if (fun _=>W.rt trivial) (fun _=>W.if (fun _=>W.rt trivial) (fun _=>W.if (fun _=>W.rt trivial) (fun _=>W.rt trivial)))))
     ·try simp only [bz]at h
      refine W.if (fun h=>?_) (fun h=>?_)
      ·try simp only [bz]at h
       unfold AX
       exact W.if (fun _=>W.rt trivial) (fun _=>W.if (fun _=>W.rt trivial) (fun _=>W.if (fun _=>W.rt trivial) (fun _=>W.if (fun _=>W.rt trivial) (fun _=>W.if (fun _=>W.rt trivial) (fun _=>W.rt trivial)))))
      ·try simp only [bz]at h
       unfold AX
       exact W.if (fun _=>W.rt trivial) (fun _=>W.if (fun _=>W.rt trivial) (fun _=>W.if (fun _=>W.rt trivial) (fun _=>W.if (fun _=>W.rt trivial) (fun _=>W.if (fun _=>W.rt trivial) (fun _=>W.rt trivial)))))
    ·try simp only [bz]at h
     unfold Cr
     try simp only [jn]
     refine W.if (fun _=>W.rt trivial) (fun h=>?_)
     try simp only [bz]at h
     refine W.if (fun h=>?_) (fun h=>?_)
     ·try simp only [bz]at h
      unfold AX
      exact W.if (fun _=>W.rt trivial) (fun _=>W.if (fun _=>W.rt trivial) (fun _=>W.if (fun _=>W.rt trivial) (fun _=>W.if (fun _=>W.rt trivial) (fun _=>W.if (fun _=>W.rt trivial) (fun _=>W.rt trivial)))))
     ·try simp only [bz]at h
      refine W.if (fun h=>?_) (fun h=>?_)
      ·try simp only [bz]at h
       unfold AX
       exact W.if (fun _=>W.rt trivial) (fun _=>W.if (fun _=>W.rt trivial) (fun _=>W.if (fun _=>W.rt trivial) (fun _=>W.if (fun _=>W.rt trivial) (fun _=>W.if (fun _=>W.rt trivial) (fun _=>W.rt trivial)))))
      ·try simp only [bz]at h
       unfold AX
       exact W.if (fun _=>W.rt trivial) (fun _=>W.if (fun _=>W.rt trivial) (fun _=>W.if (fun _=>W.rt trivial) (fun _=>W.if (fun _=>W.rt trivial) (fun _=>W.if (fun _=>W.rt trivial) (fun _=>W.rt trivial)))))
   ·try simp only [bz]at h
    unfold Fc
    try simp only [jn]
    refine W.if (fun _=>W.rt trivial) (fun h=>?_)
    try simp only [bz]at h
    refine W.if (fun h=>?_) (fun h=>?_)
    ·try simp only [bz]at h
     unfold Cr
     try simp only [jn]
     refine W.if (fun _=>W.rt trivial) (fun h=>?_)
     try simp only [bz]at h
     refine W.if (fun h=>?_) (fun h=>?_)
     ·try simp only [bz]at h
      unfold AX
      exact W.if (fun _=>W.rt trivial) (fun _=>W.if (fun _=>W.rt trivial) (fun _=>W.if (fun _=>W.rt trivial) (fun _=>W.if (fun _=>W.rt trivial) (fun _=>W.if (fun _=>W.rt trivial) (fun _=>W.rt trivial)))))
     ·try simp only [bz]at h
      refine W.if (fun h=>?_) (fun h=>?_)
      ·try simp only [bz]at h
       unfold AX
       exact W.if (fun _=>W.rt trivial) (fun _=>W.if (fun _=>W.rt trivial) (fun _=>W.if (fun _=>W.rt trivial) (fun _=>W.if (fun _=>W.rt trivial) (fun _=>W.if (fun _=>W.rt trivial) (fun _=>W.rt trivial)))))
      ·try simp only [bz]at h
       unfold AX
       exact W.if (fun _=>W.rt trivial) (fun _=>W.if (fun _=>W.rt trivial) (fun _=>W.if (fun _=>W.rt trivial) (fun _=>W.if (fun _=>W.rt trivial) (fun _=>W.if (fun _=>W.rt trivial) (fun _=>W.rt trivial)))))
    ·try simp only [bz]at h
     unfold Cr
     try simp only [jn]
     refine W.if (fun _=>W.rt trivial) (fun h=>?_)
     try simp only [bz]at h
     refine W.if (fun h=>?_) (fun h=>?_)
     ·try simp only [bz]at h
      unfold AX
      exact W.if (fun _=>W.rt trivial) (fun _=>W.if (fun _=>W.rt trivial) (fun _=>W.if (fun _=>W.rt trivial) (fun _=>W.if (fun _=>W.rt trivial) (fun _=>W.if (fun _=>W.rt trivial) (fun _=>W.rt trivial)))))
     ·try simp only [bz]at h
      refine W.if (fun h=>?_) (fun h=>?_)
      ·try simp only [bz]at h
       unfold AX
       exact W.if (fun _=>W.rt trivial) (fun _=>W.if (fun _=>W.rt trivial) (fun _=>W.if (fun _=>W.rt trivial) (fun _=>W.if (fun _=>W.rt trivial) (fun _=>W.if (fun _=>W.rt trivial) (fun _=>W.rt trivial)))))
      ·try simp only [bz]at h
       unfold AX
       exact W.if (fun _=>W.rt trivial) (fun _=>W.if (fun _=>W.rt trivial) (fun _=>W.if (fun _=>W.rt trivial) (fun _=>W.if (fun _=>W.rt trivial) (fun _=>W.if (fun _=>W.rt trivial) (fun _=>W.rt trivial)))))
theorem U1 {a0:Ao} {a1:Int} (k_a0:Bk a0):W (Kg a0 a1) (fun r=> -1≤r∧r<a0.Objects.length):=by
 unfold Kg
 try simp only [jn]
 have:=AY (Ek k_a0)
 refine W.it (fun(v:Int)=>0≤v∧(v≤(a0.Objects.length:Int)∨v≤0)) (fun v=>((a0.Objects.length:Int) - v).toNat) (by omega) (by omega) (fun i_t5_3 hv=>?_)
 unfold Q3
 refine W.if (fun h=>?_) (fun h=>?_)
 ·try simp only [bz]at h
  refine W.bd (W.idx (by omega)) fun e7 _=>W.if (fun h=>?_) (fun h=>?_)
  ·try simp only [bz]at h
   refine W.ex ?_
   try dsimp only [Sum.elim_inl,Sum.elim_inr]
   refine W.rt ?_
   first | omega | decide
  ·try simp only [bz]at h
   have ww_1:Ac (i_t5_3+(1:Int))=i_t5_3+(1:Int):=Af (by omega) (by omega)
   exact W.nx (by(try dsimp only);first | omega | (and_intros<;>first | omega | assumption) | (simp;omega)) (by(try dsimp only);omega)
 ·try simp only [bz]at h
  refine W.ex ?_
  try dsimp only [Sum.elim_inl,Sum.elim_inr]
  unfold Q1
  refine W.rt ?_
  first | omega | decide
theorem jh {a0:List (Int)} {a1:Int} (k_a0:B5 8 IR a0):W (N9 a0 a1) (fun r=>True):=by
 unfold N9
 try simp only [jn]
 have:=AY k_a0
 refine W.it (fun(v:Int)=>0≤v∧(v≤(a0.length:Int)∨v≤0)) (fun v=>((a0.length:Int) - v).toNat) (by omega) (by omega) (fun i_t5_3 hv=>?_)
 unfold Q4
 refine W.if (fun h=>?_) (fun _=>W.ex (W.rt trivial))
 try simp only [bz]at h
 refine W.bd (W.idx (by omega)) fun e7 _=>W.if (fun _=>W.ex (W.rt trivial)) (fun h=>?_)
 try simp only [bz]at h
 have ww_1:Ac (i_t5_3+(1:Int))=i_t5_3+(1:Int):=Af (by omega) (by omega)
 exact W.nx (by(try dsimp only);first | omega | (and_intros<;>first | omega | assumption) | (simp;omega)) (by(try dsimp only);omega)
theorem pO {a0:Int} {a1:Int} {a2:Int}:W (VS a0 a1 a2) (fun r=>True):=by
 unfold VS
 refine W.if (fun _=>W.rt trivial) (fun h=>?_)
 try simp only [bz]at h
 refine W.lt fun b2 bb_1=>W.rt trivial
theorem mF {a0:Int} {a1:Int} {a2:Int}:W (Q5 a0 a1 a2) (fun r=>True):=by
 unfold Q5
 refine W.if (fun _=>W.rt trivial) (fun h=>?_)
 try simp only [bz]at h
 refine W.lt fun b2 bb_1=>W.rt trivial
theorem pP {a0:Bool} {a1:Int}:W (VU a0 a1) (fun r=>True):=by
 unfold VU
 refine W.if (fun _=>W.rt trivial) (fun h=>?_)
 try simp only [bz]at h
 refine W.lt fun b2 bb_1=>W.rt trivial
theorem Ez {a0:Int} {a1:Int}:W (C9 a0 a1) (fun r=>True):=by
 unfold C9
 exact W.rt trivial
theorem pQ {a0:Int} {a1:Int}:W (VV a0 a1) (fun r=>True):=by
 unfold VV
 exact W.rt trivial
theorem Nv {a0:Az} {a1:Int}:W (Ht a0 a1) (fun r=>True):=by
 unfold Ht
 exact W.if (fun _=>W.rt trivial) (fun _=>W.if (fun _=>W.rt trivial) (fun _=>W.if (fun _=>W.rt trivial) (fun _=>W.if (fun _=>W.rt trivial) (fun _=>W.rt trivial))))
theorem Yv {a0:List (Int)} {a1:List (Int)} (k_a0:B5 8 IR a0) (k_a1:B5 8 IR a1):W (Kh a0 a1) (fun r=>True):=by
 unfold Kh
 try simp only [jn]
 have:=AY k_a0
 have:=AY k_a1
 refine W.if (fun _=>W.rt trivial) (fun h=>?_)
 try simp only [bz]at h
 refine W.it (fun(v:Int)=>0≤v∧(v≤(a0.length:Int)∨v≤0)) (fun v=>((a0.length:Int) - v).toNat) (by omega) (by omega) (fun i_t5_4 hv=>?_)
 unfold UN
 refine W.if (fun h=>?_) (fun _=>W.ex (W.rt trivial))
 try simp only [bz]at h
 refine W.bd (W.idx (by omega)) fun e8 _=>W.bd (W.idx (by omega)) fun e9 _=>W.if (fun _=>W.ex (W.rt trivial)) (fun h=>?_)
 try simp only [bz]at h
 have ww_1:Ac (i_t5_4+(1:Int))=i_t5_4+(1:Int):=Af (by omega) (by omega)
 exact W.nx (by(try dsimp only);first | omega | (and_intros<;>first | omega | assumption) | (simp;omega)) (by(try dsimp only);omega)
theorem RM {a0:List UInt8} (k_a0:Fx a0):W (SM a0) (fun r=>r=true→a0.length≤32):=by
 unfold SM
 try simp only [jn]
 refine W.lt fun b1 bb_1=>W.gb (fun gg_2=>by try simp only [bb_1,bz]at gg_2;have:=AN k_a0;exact W.sidx (by omega)) (fun c2 _=>?_)
 refine W.gb (fun _=>bK) fun r3 _=>W.lt fun b4 bb_4=>W.gb (fun gg_5=>by try simp only [bb_1,bb_4,bz]at gg_5;have:=AN k_a0;exact W.sidx (by have ww_6:Ac ((a0.length:Int) - (1:Int))=(a0.length:Int) - (1:Int):=Af (by omega) (by omega);omega)) (fun c5 _=>?_)
 refine W.lt fun b6 bb_7=>W.if (fun h=>?_) (fun h=>?_)
 ·try simp only [bb_1,bb_4,bb_7,bz]at h
  refine W.rt ?_
  first | (intro hz;cases hz;done) | (intro _;omega)
 ·try simp only [bb_1,bb_4,bb_7,bz]at h
  have:=AN k_a0
  refine W.it (fun(v:Int)=>0≤v∧(v≤(a0.length:Int)∨v≤0)) (fun v=>((a0.length:Int) - v).toNat) (by omega) (by omega) (fun i_t3_10 hv=>?_)
  unfold XT
  refine W.if (fun h=>?_) (fun h=>?_)
  ·try simp only [bb_1,bb_4,bb_7,bz]at h
   refine W.bd (W.sidx (by omega)) fun c14 _=>W.bd (bK) fun r15 _=>W.gb (fun gg_8=>by try simp only [bb_1,bb_4,bb_7,bz]at gg_8;exact W.sidx (by omega)) (fun c16 _=>?_)
   refine W.gb (fun gg_9=>by try simp only [bb_1,bb_4,bb_7,bz]at gg_9;exact W.sidx (by omega)) (fun c17 _=>?_)
   refine W.lt fun b18 bb_10=>W.lt fun b19 bb_11=>W.gb (fun gg_12=>by try simp only [bb_1,bb_4,bb_7,bb_10,bb_11,bz]at gg_12;exact W.sidx (by omega)) (fun c20 _=>?_)
   refine W.lt fun b21 bb_13=>W.if (fun h=>?_) (fun h=>?_)
   ·try simp only [bb_1,bb_4,bb_7,bb_10,bb_11,bb_13,bz]at h
    refine W.ex ?_
    try dsimp only [Sum.elim_inl,Sum.elim_inr]
    refine W.rt ?_
    first | (intro hz;cases hz;done) | (intro _;omega)
   ·try simp only [bb_1,bb_4,bb_7,bb_10,bb_11,bb_13,bz]at h
    refine W.gb (fun gg_14=>by try simp only [bb_1,bb_4,bb_7,bb_10,bb_11,bb_13,bz]at gg_14;exact W.sidx (by omega)) (fun c23 _=>?_)
    refine W.lt fun b24 bb_15=>W.gb (fun gg_16=>by try simp only [bb_1,bb_4,bb_7,bb_10,bb_11,bb_13,bb_15,bz]at gg_16;exact W.sidx (by have ww_17:Ac (i_t3_10 - (1:Int))=i_t3_10 - (1:Int):=Af (by omega) (by omega);omega)) (fun c25 _=>?_)
    refine W.lt fun b26 bb_18=>W.if (fun h=>?_) (fun h=>?_)
    ·try simp only [bb_1,bb_4,bb_7,bb_10,bb_11,bb_13,bb_15,bb_18,bz]at h
     refine W.ex ?_
     try dsimp only [Sum.elim_inl,Sum.elim_inr]
     refine W.rt ?_
     first | (intro hz;cases hz;done) | (intro _;omega)
    ·try simp only [bb_1,bb_4,bb_7,bb_10,bb_11,bb_13,bb_15,bb_18,bz]at h
     have ww_19:Ac (i_t3_10+(1:Int))=i_t3_10+(1:Int):=Af (by omega) (by omega)
     exact W.nx (by(try dsimp only);first | omega | (and_intros<;>first | omega | assumption) | (simp;omega)) (by(try dsimp only);omega)
  ·try simp only [bb_1,bb_4,bb_7,bz]at h
   refine W.ex ?_
   try dsimp only [Sum.elim_inl,Sum.elim_inr]
   unfold bw
   refine W.rt ?_
   first | (intro hz;cases hz;done) | (intro _;omega)
theorem eD {a0:List (List UInt8)} {a1:Int} {a2:List UInt8} (k_a0:B5 16 Fx a0) (k_a2:Fx a2) (p_0:a0.length≤10) (p_1: ∀ y∈a0,y.length≤40) (p_2:a2.length≤1):W (K2 a0 a1 a2) (fun r=>r.length≤500):=by
 unfold K2
 try simp only [jn]
 have:=AY k_a0
 refine W.it (fun(v:(List UInt8)×Int)=>0≤v.2∧(v.2≤a0.length∨v.2≤0)∧(v.1.length:Int)≤41*v.2) (fun v=>((a0.length:Int) - v.2).toNat) ?_ ?_ (fun v hv=>?_)
 ·(try dsimp only);first | omega | (simp;omega) | (and_intros<;>first | omega | assumption | (simp;omega) | simp)
 ·(try dsimp only);first | omega | (simp;omega) | (and_intros<;>first | omega | assumption | (simp;omega) | simp)
 ·obtain⟨s_t7_5,i_t8_6⟩:=v
  replace hv:0≤i_t8_6∧(i_t8_6≤a0.length∨i_t8_6≤0)∧(s_t7_5.length:Int)≤41*i_t8_6:=hv
  show W (Jz a0 a1 a2 s_t7_5 i_t8_6) _
  unfold Jz
  try simp only [jn]
  refine W.if (fun h=>?_) (fun h=>?_)
  ·try simp only [bz]at h
   refine W.bd (S8 (by first | assumption | omega | exact Ae _ | (simp;done) | (simp;omega))) fun r12 _=>W.if (fun h=>?_) (fun h=>?_)
   ·try simp only [bz]at h
    refine W.if (fun h=>?_) (fun h=>?_)
    ·try simp only [bz]at h
     have:=AN k_a2
     refine W.bd (W.cat (by first | omega | (simp;omega))) (fun s19 q_s19=>?_)
     replace q_s19:s19.length=(s_t7_5).length +(a2).length :=q_s19.2
     unfold Ij
     try simp only [jn]
     refine W.bd (W.idx (by omega)) (fun e16 q_e16=>?_)
     have ll_1:=p_1 e16 q_e16.1
     have:=AN (show Fx e16 from Bp k_a0 q_e16.1)
     refine W.bd (W.cat (by first | omega | (simp;omega))) (fun s17 q_s17=>?_)
     replace q_s17:s17.length=(s19).length +(e16).length :=q_s17.2
     unfold Fe
     have ww_2:Ac (i_t8_6+(1:Int))=i_t8_6+(1:Int):=Af (by omega) (by omega)
     exact W.nx (by(try dsimp only);first | omega | (and_intros<;>first | omega | assumption) | (simp;omega)) (by(try dsimp only);omega)
    ·try simp only [bz]at h
     unfold Ij
     try simp only [jn]
     refine W.bd (W.idx (by omega)) (fun e16 q_e16=>?_)
     have ll_3:=p_1 e16 q_e16.1
     have:=AN (show Fx e16 from Bp k_a0 q_e16.1)
     refine W.bd (W.cat (by first | omega | (simp;omega))) (fun s17 q_s17=>?_)
     replace q_s17:s17.length=(s_t7_5).length +(e16).length :=q_s17.2
     unfold Fe
     have ww_4:Ac (i_t8_6+(1:Int))=i_t8_6+(1:Int):=Af (by omega) (by omega)
     exact W.nx (by(try dsimp only);first | omega | (and_intros<;>first | omega | assumption) | (simp;omega)) (by(try dsimp only);omega)
   ·try simp only [bz]at h
    unfold Fe
    have ww_5:Ac (i_t8_6+(1:Int))=i_t8_6+(1:Int):=Af (by omega) (by omega)
    exact W.nx (by(try dsimp only);first | omega | (and_intros<;>first | omega | assumption) | (simp;omega)) (by(try dsimp only);omega)
  ·try simp only [bz]at h
   refine W.ex ?_
   try dsimp only [Sum.elim_inl,Sum.elim_inr]
   unfold OL
   refine W.rt ?_
   first | omega | decide
theorem Yw {a0:Int}:W (MR a0) (fun r=>r.length≤150):=by
 unfold MR
 try simp only [jn]
 refine W.bd (sH) fun r1 _=>W.if (fun h=>?_) (fun h=>?_)
 ·try simp only [bz]at h
  refine W.rt ?_
  first | omega | decide
 ·try simp only [bz]at h
  refine W.if (fun h=>?_) (fun h=>?_)
  ·try simp only [bz]at h
   refine W.rt ?_
   have ll_1:Qw.length=4:=rfl
   first | omega | decide
  ·try simp only [bz]at h
   refine W.it (fun(v:(List UInt8)×Int)=>0≤v.2∧v.2≤5∧(v.1.length:Int)≤20*v.2) (fun v=>(5 - v.2).toNat) ?_ ?_ (fun v hv=>?_)
   ·(try dsimp only);first | omega | (simp;omega) | (and_intros<;>first | omega | assumption | (simp;omega) | simp)
   ·(try dsimp only);first | omega | (simp;omega) | (and_intros<;>first | omega | assumption | (simp;omega) | simp)
   ·obtain⟨out_t3_8,i_t4_9⟩:=v
    replace hv:0≤i_t4_9∧i_t4_9≤5∧(out_t3_8.length:Int)≤20*i_t4_9:=hv
    show W (K4 a0 out_t3_8 i_t4_9) _
    unfold K4
    try simp only [jn]
    refine W.if (fun h=>?_) (fun h=>?_)
    ·try simp only [bz]at h
     refine W.bd (W.need (by first | omega | (refine qA ?_;omega))) fun u15 _=>W.bd (W.need (by first | omega | (refine qA ?_;omega))) fun u16 _=>W.if (fun h=>?_) (fun h=>?_)
     ·try simp only [bz]at h
      refine W.if (fun h=>?_) (fun h=>?_)
      ·try simp only [bz]at h
       have ll_2:IY.length=1:=rfl
       refine W.bd (W.cat (by first | omega | (simp;omega))) (fun s23 q_s23=>?_)
       replace q_s23:s23.length=(out_t3_8).length +(IY).length :=q_s23.2
       unfold K3
       try simp only [jn]
       refine W.bd (LA) (fun r20 q_r20=>?_)
       replace q_r20:r20.length≤10:=q_r20
       refine W.bd (W.cat (by first | omega | (simp;omega))) (fun s21 q_s21=>?_)
       replace q_s21:s21.length=(s23).length +(r20).length :=q_s21.2
       unfold He
       have ww_3:Ac (i_t4_9+(1:Int))=i_t4_9+(1:Int):=Af (by omega) (by omega)
       exact W.nx (by(try dsimp only);first | omega | (and_intros<;>first | omega | assumption) | (simp;omega)) (by(try dsimp only);omega)
      ·try simp only [bz]at h
       unfold K3
       try simp only [jn]
       refine W.bd (LA) (fun r20 q_r20=>?_)
       replace q_r20:r20.length≤10:=q_r20
       refine W.bd (W.cat (by first | omega | (simp;omega))) (fun s21 q_s21=>?_)
       replace q_s21:s21.length=(out_t3_8).length +(r20).length :=q_s21.2
       unfold He
       have ww_4:Ac (i_t4_9+(1:Int))=i_t4_9+(1:Int):=Af (by omega) (by omega)
       exact W.nx (by(try dsimp only);first | omega | (and_intros<;>first | omega | assumption) | (simp;omega)) (by(try dsimp only);omega)
     ·try simp only [bz]at h
      unfold He
      have ww_5:Ac (i_t4_9+(1:Int))=i_t4_9+(1:Int):=Af (by omega) (by omega)
      exact W.nx (by(try dsimp only);first | omega | (and_intros<;>first | omega | assumption) | (simp;omega)) (by(try dsimp only);omega)
    ·try simp only [bz]at h
     refine W.ex ?_
     try dsimp only [Sum.elim_inl,Sum.elim_inr]
     unfold UP
     refine W.rt ?_
     first | omega | decide
theorem PQ {a0:Int}:W (MS a0) (fun r=>r.length≤40):=by
 unfold MS
 refine W.lt fun b1 bb_1=>W.if (fun h=>?_) (fun h=>?_)
 ·try simp only [bb_1,bz]at h
  refine W.rt ?_
  first | omega | decide
 ·try simp only [bb_1,bz]at h
  refine W.bd (ja) (fun r3 q_r3=>?_)
  replace q_r3:r3.length=17∧ ∀ y∈r3,y.length≤40:=q_r3
  obtain⟨_,q_r3_2⟩:=q_r3
  refine W.bd (W.idx (by omega)) (fun e4 q_e4=>?_)
  have ll_2:=q_r3_2 e4 q_e4.1
  refine W.rt ?_
  first | omega | decide
theorem FZ {a0:Int}:W (Ff a0) (fun r=>r.length≤21):=by
 unfold Ff
 refine W.if (fun h=>?_) (fun h=>?_)
 ·try simp only [bz]at h
  refine W.bd (RK (by first | assumption | omega | exact Ae _ | (simp;done) | (simp;omega))) (fun r2 q_r2=>?_)
  replace q_r2:r2.length≤20:=q_r2
  have ll_1:cT.length=1:=rfl
  refine W.bd (W.cat (by first | omega | (simp;omega))) (fun s3 q_s3=>?_)
  replace q_s3:s3.length=(cT).length +(r2).length :=q_s3.2
  refine W.rt ?_
  first | omega | decide
 ·try simp only [bz]at h
  refine W.bd (RK (by first | assumption | omega | exact Ae _ | (simp;done) | (simp;omega))) (fun r4 q_r4=>?_)
  replace q_r4:r4.length≤20:=q_r4
  refine W.rt ?_
  first | omega | decide
theorem U2 {a0:EG}:W (Oa a0) (fun r=>True):=by
 unfold Oa
 refine W.bd (Np) (fun r1 q_r1=>?_)
 replace q_r1:r1=true→a0.Mana.X≤2∧ ∀ i:Int,0≤i→i<5→a0.Mana.Color.l.getD i.toNat default≤9:=q_r1
 have ll_1:a0.Mana.Color.l.length=5:=rfl
 refine W.lt fun b2 bb_2=>W.lt fun b3 bb_3=>W.lt fun b4 bb_4=>W.rt trivial
theorem Vp {a0:Int}:W (Ga a0) (fun r=>True):=by
 unfold Ga
 refine W.bd (Yu) fun r1 _=>W.gb (fun _=>RL) fun r2 _=>W.lt fun b3 bb_2=>W.lt fun b4 bb_3=>W.rt trivial
theorem Am {a0:Int} {a1:Int}:W (DW a0 a1) (fun r=>True):=by
 unfold DW
 try simp only [jn]
 refine W.bd (mA) (fun r1 q_r1=>?_)
 replace q_r1:r1.length≤5:=q_r1
 refine W.it (fun(v:Int)=>0≤v∧(v≤(r1.length:Int)∨v≤0)) (fun v=>((r1.length:Int) - v).toNat) (by omega) (by omega) (fun i_t6_4 hv=>?_)
 unfold UQ
 refine W.if (fun h=>?_) (fun _=>W.ex (W.rt trivial))
 try simp only [bz]at h
 refine W.bd (W.sidx (by omega)) fun c8 _=>W.if (fun _=>W.ex (W.rt trivial)) (fun h=>?_)
 try simp only [bz]at h
 have ww_1:Ac (i_t6_4+(1:Int))=i_t6_4+(1:Int):=Af (by omega) (by omega)
 exact W.nx (by(try dsimp only);first | omega | (and_intros<;>first | omega | assumption) | (simp;omega)) (by(try dsimp only);omega)
theorem Zt {a0:List (A1)} {a1:A1} (k_a0:B5 176 Cy a0) (k_a1:Cy a1):W (I7 a0 a1) (fun r=>True):=by
 unfold I7
 try simp only [jn]
 have:=AY (CN k_a1)
 refine W.it (fun(v:Int)=>0≤v∧(v≤(a1.Abilities.length:Int)∨v≤0)) (fun v=>((a1.Abilities.length:Int) - v).toNat) (by omega) (by omega) (fun i_t5_3 hv=>?_)
 unfold MU
 try simp only [jn]
 refine W.if (fun h=>?_) (fun _=>W.ex (W.rt trivial))
 try simp only [bz]at h
 refine W.it (fun(v:Int)=>0≤v∧v≤140737488355328) (fun v=>(140737488355328 - v).toNat) (by omega) (by omega) (fun k_t6_9 hv=>?_)
 unfold LM
 refine W.bd (W.idx (by omega)) (fun e12 q_e12=>?_)
 have:=AY (AE (show Bl e12 from Bp (CN k_a1) q_e12.1))
 refine W.if (fun h=>?_) (fun h=>?_)
 ·try simp only [bz]at h
  refine W.re q_e12.2.2 ?_
  refine W.bd (W.idx (by omega)) fun e15 _=>W.gb (fun _=>jd k_a0) fun r16 _=>W.lt fun b17 bb_2=>W.if (fun h=>?_) (fun h=>?_)
  ·try simp only [bb_2,bz]at h
   refine W.ex ?_
   try dsimp only [Sum.elim_inl,Sum.elim_inr]
   exact W.ex (W.rt trivial)
  ·try simp only [bb_2,bz]at h
   have ww_3:Ac (k_t6_9+(1:Int))=k_t6_9+(1:Int):=Af (by omega) (by omega)
   exact W.nx (by(try dsimp only);first | omega | (and_intros<;>first | omega | assumption) | (simp;omega)) (by(try dsimp only);omega)
 ·try simp only [bz]at h
  refine W.ex ?_
  try dsimp only [Sum.elim_inl,Sum.elim_inr]
  unfold MT
  have ww_4:Ac (i_t5_3+(1:Int))=i_t5_3+(1:Int):=Af (by omega) (by omega)
  exact W.nx (by(try dsimp only);first | omega | (and_intros<;>first | omega | assumption) | (simp;omega)) (by(try dsimp only);omega)
theorem mG {a0:Ao} {a1:Int} (k_a0:Bk a0):W (Q6 a0 a1) (fun r=>True):=by
 unfold Q6
 refine W.bd (jf k_a0) (fun r1 q_r1=>?_)
 replace q_r1: -1≤r1∧r1<a0.Objects.length:=q_r1
 have:=AY (Ek k_a0)
 refine W.if (fun _=>W.rt trivial) (fun h=>?_)
 try simp only [bz]at h
 refine W.bd (W.idx (by omega)) fun e3 _=>W.rt trivial
theorem Di {a0:Ao} {a1:Int}:W (CS a0 a1) (fun r=>True):=by
 unfold CS
 refine W.bd (CO) fun r1 _=>W.rt trivial
theorem sL {a0:AO} {a1:Int} {a2:Int}:W (dw a0 a1 a2) (fun r=>True):=by
 unfold dw
 refine W.lt fun b1 bb_1=>W.lt fun b2 bb_2=>W.lt fun b3 bb_3=>W.lt fun b4 bb_4=>W.lt fun b5 bb_5=>W.lt fun b6 bb_6=>W.lt fun b7 bb_7=>W.lt fun b8 bb_8=>W.if (fun _=>W.rt trivial) (fun h=>?_)
 try simp only [bb_1,bb_2,bb_3,bb_4,bb_5,bb_6,bb_7,bb_8,bz]at h
 refine W.lt fun b10 bb_9=>W.lt fun b11 bb_10=>W.lt fun b12 bb_11=>W.lt fun b13 bb_12=>W.lt fun b14 bb_13=>W.lt fun b15 bb_14=>W.lt fun b16 bb_15=>W.if (fun _=>W.rt trivial) (fun h=>?_)
 try simp only [bb_1,bb_2,bb_3,bb_4,bb_5,bb_6,bb_7,bb_8,bb_9,bb_10,bb_11,bb_12,bb_13,bb_14,bb_15,bz]at h
 refine W.bd (sJ) fun r18 _=>W.lt fun b19 bb_16=>W.lt fun b20 bb_17=>W.lt fun b21 bb_18=>W.lt fun b22 bb_19=>W.if (fun _=>W.rt trivial) (fun h=>?_)
 try simp only [bb_1,bb_2,bb_3,bb_4,bb_5,bb_6,bb_7,bb_8,bb_9,bb_10,bb_11,bb_12,bb_13,bb_14,bb_15,bb_16,bb_17,bb_18,bb_19,bz]at h
 refine W.gb (fun _=>mE) fun r24 _=>W.gb (fun _=>jg) fun r25 _=>W.lt fun b26 bb_22=>W.lt fun b27 bb_23=>W.lt fun b28 bb_24=>W.lt fun b29 bb_25=>W.lt fun b30 bb_26=>W.rt trivial
theorem mH {a0:Ao} {a1:Int} {a2:Int} (k_a0:Bk a0):W (MV a0 a1 a2) (fun r=>B5 8 IR r):=by
 unfold MV
 refine W.if (fun h=>?_) (fun h=>?_)
 ·try simp only [bz]at h
  refine W.bd (IB (GJ k_a0)) (fun r2 q_r2=>?_)
  replace q_r2:B5 8 IR r2:=q_r2
  refine W.rt ?_
  exact q_r2
 ·try simp only [bz]at h
  refine W.if (fun h=>?_) (fun h=>?_)
  ·try simp only [bz]at h
   refine W.bd (IB (No k_a0)) (fun r4 q_r4=>?_)
   replace q_r4:B5 8 IR r4:=q_r4
   refine W.rt ?_
   exact q_r4
  ·try simp only [bz]at h
   refine W.lt fun b5 bb_1=>W.if (fun h=>?_) (fun h=>?_)
   ·try simp only [bb_1,bz]at h
    refine W.rt ?_
    exact G6
   ·try simp only [bb_1,bz]at h
    refine W.if (fun h=>?_) (fun h=>?_)
    ·try simp only [bb_1,bz]at h
     have:=AY (Bu k_a0)
     refine W.bd (W.idx (by omega)) fun e8 q_e8=>W.bd (IB (Nn (show Cv e8 from Bp (Bu k_a0) q_e8.1))) (fun r9 q_r9=>?_)
     replace q_r9:B5 8 IR r9:=q_r9
     refine W.rt ?_
     exact q_r9
    ·try simp only [bb_1,bz]at h
     refine W.if (fun h=>?_) (fun h=>?_)
     ·try simp only [bb_1,bz]at h
      have:=AY (Bu k_a0)
      refine W.bd (W.idx (by omega)) fun e11 q_e11=>W.bd (IB (Ji (show Cv e11 from Bp (Bu k_a0) q_e11.1))) (fun r12 q_r12=>?_)
      replace q_r12:B5 8 IR r12:=q_r12
      refine W.rt ?_
      exact q_r12
     ·try simp only [bb_1,bz]at h
      refine W.if (fun h=>?_) (fun h=>?_)
      ·try simp only [bb_1,bz]at h
       have:=AY (Bu k_a0)
       refine W.bd (W.idx (by omega)) fun e14 q_e14=>W.bd (IB (G0 (show Cv e14 from Bp (Bu k_a0) q_e14.1))) (fun r15 q_r15=>?_)
       replace q_r15:B5 8 IR r15:=q_r15
       refine W.rt ?_
       exact q_r15
      ·try simp only [bb_1,bz]at h
       refine W.rt ?_
       exact G6
theorem mI {a0:AV} {a1:AV} (k_a0:BN a0) (k_a1:BN a1):W (Q7 a0 a1) (fun r=>True):=by
 unfold Q7
 refine W.lt fun b1 bb_1=>W.lt fun b2 bb_2=>W.lt fun b3 bb_3=>W.lt fun b4 bb_4=>W.lt fun b5 bb_5=>W.lt fun b6 bb_6=>W.lt fun b7 bb_7=>W.gb (fun _=>Nt (BF k_a0) (BF k_a1)) fun r8 _=>W.lt fun b9 bb_9=>W.rt trivial
theorem pR {a0:Int} {a1:Int}:W (VW a0 a1) (fun r=>True):=by
 unfold VW
 refine W.bd (Ci) fun r1 _=>W.bd (Ci) fun r2 _=>W.bd (Ci) fun r3 _=>W.rt trivial
theorem F0 {a0:Int} {a1:Int}:W (Gb a0 a1) (fun r=>True):=by
 unfold Gb
 refine W.bd (Ci) fun r1 _=>W.bd (Ci) fun r2 _=>W.bd (Ci) fun r3 _=>W.rt trivial
theorem eE {a0:Bs}:W (Im a0) (fun r=>True):=by
 unfold Im
 try simp only [jn]
 refine W.bd (Np) (fun r1 q_r1=>?_)
 replace q_r1:r1=true→a0.X≤2∧ ∀ i:Int,0≤i→i<5→a0.Color.l.getD i.toNat default≤9:=q_r1
 have ll_1:a0.Color.l.length=5:=rfl
 refine W.if (fun _=>W.rt trivial) (fun h=>?_)
 try simp only [bz]at h
 have qq_2:=q_r1 h
 have qq_3:=qq_2.2
 refine W.it (fun(v:Int×Int×Int)=>0≤v.2.2∧(v.2.2≤(5:Int)∨v.2.2≤0)) (fun v=>((5:Int) - v.2.2).toNat) ?_ ?_ (fun v hv=>?_)
 ·(try dsimp only);first | omega | (simp;omega) | (and_intros<;>first | omega | assumption | (simp;omega) | simp)
 ·(try dsimp only);first | omega | (simp;omega) | (and_intros<;>first | omega | assumption | (simp;omega) | simp)
 ·obtain⟨mask_t3_8,bit_t4_9,i_t5_10⟩:=v
  replace hv:0≤i_t5_10∧(i_t5_10≤(5:Int)∨i_t5_10≤0):=hv
  show W (Il a0 mask_t3_8 bit_t4_9 i_t5_10) _
  unfold Il
  try simp only [jn]
  refine W.if (fun h=>?_) (fun _=>W.ex (W.rt trivial))
  try simp only [bz]at h
  refine W.bd (W.idx (by omega)) fun e16 q_e16=>W.re q_e16.2.2 ?_
  refine W.if (fun h=>?_) (fun h=>?_)
  ·try simp only [bz]at h
   unfold Ik
   have ww_4:Ac (i_t5_10+(1:Int))=i_t5_10+(1:Int):=Af (by omega) (by omega)
   exact W.nx (by(try dsimp only);first | omega | (and_intros<;>first | omega | assumption) | (simp;omega)) (by(try dsimp only);omega)
  ·try simp only [bz]at h
   unfold Ik
   have ww_5:Ac (i_t5_10+(1:Int))=i_t5_10+(1:Int):=Af (by omega) (by omega)
   exact W.nx (by(try dsimp only);first | omega | (and_intros<;>first | omega | assumption) | (simp;omega)) (by(try dsimp only);omega)
theorem Zu {a0:AU} {a1:Int} (k_a0:C4 a0):W (I8 a0 a1) (fun r=>True):=by
 unfold I8
 try simp only [jn]
 have:=AY (Gc k_a0)
 refine W.it (fun(v:Int)=>0≤v∧(v≤(a0.Mods.length:Int)∨v≤0)) (fun v=>((a0.Mods.length:Int) - v).toNat) (by omega) (by omega) (fun k_t5_3 hv=>?_)
 unfold MX
 refine W.if (fun h=>?_) (fun _=>W.ex (W.rt trivial))
 try simp only [bz]at h
 refine W.bd (W.idx (by omega)) fun e7 _=>W.bd (Nu) fun r8 _=>W.if (fun _=>W.ex (W.rt trivial)) (fun h=>?_)
 try simp only [bz]at h
 have ww_1:Ac (k_t5_3+(1:Int))=k_t5_3+(1:Int):=Af (by omega) (by omega)
 exact W.nx (by(try dsimp only);first | omega | (and_intros<;>first | omega | assumption) | (simp;omega)) (by(try dsimp only);omega)
theorem bL {a0:List (Int)} {a1:Int} (k_a0:B5 8 IR a0):W (Ob a0 a1) (fun r=>True):=by
 unfold Ob
 refine W.bd (jh k_a0) fun r1 _=>W.rt trivial
theorem RN {a0:BZ} {a1:List UInt8} (k_a0:Fs a0):W (FN a0 a1) (fun r=>True):=by
 unfold FN
 refine W.bd (Nq (Eh k_a0)) fun r1 _=>W.rt trivial
theorem bM {a0:Int} {a1:Int}:W (VX a0 a1) (fun r=>True):=by
 unfold VX
 refine W.bd (Ci) fun r1 _=>W.bd (Ci) fun r2 _=>W.bd (Ci) fun r3 _=>W.rt trivial
theorem ji {a0:AU} {a1:Int} (k_a0:C4 a0):W (Kk a0 a1) (fun r=>True):=by
 unfold Kk
 try simp only [jn]
 have:=AY (Gc k_a0)
 refine W.it (fun(v:Int)=>0≤v∧(v≤(a0.Mods.length:Int)∨v≤0)) (fun v=>((a0.Mods.length:Int) - v).toNat) (by omega) (by omega) (fun k_t5_3 hv=>?_)
 unfold Ra
 refine W.if (fun h=>?_) (fun _=>W.ex (W.rt trivial))
 try simp only [bz]at h
 refine W.bd (W.idx (by omega)) fun e7 _=>W.gb (fun gg_1=>by try simp only [bz]at gg_1;exact W.idx (by omega)) (fun e8 _=>?_)
 refine W.gb (fun _=>Nu) fun r9 _=>W.lt fun b10 bb_3=>W.if (fun _=>W.ex (W.rt trivial)) (fun h=>?_)
 try simp only [bb_3,bz]at h
 have ww_4:Ac (k_t5_3+(1:Int))=k_t5_3+(1:Int):=Af (by omega) (by omega)
 exact W.nx (by(try dsimp only);first | omega | (and_intros<;>first | omega | assumption) | (simp;omega)) (by(try dsimp only);omega)
theorem D8 {a0:List UInt8} (k_a0:Fx a0):W (ES a0) (fun r=>r=true→a0.length≤32):=by
 unfold ES
 refine W.bd (RM k_a0) (fun r1 q_r1=>?_)
 replace q_r1:r1=true→a0.length≤32:=q_r1
 have:=AN k_a0
 refine W.gb (fun _=>S7) fun r2 q_r2=>W.gb (fun gg_2=>by have qq_3:r2.length=2∧ ∀ y∈r2,y.length≤40:=q_r2 gg_2;obtain⟨qq_3_1,qq_3_2⟩:=qq_3;try simp only [bz]at gg_2;exact Nq (BT (by assumption) (by omega) (by omega))) (fun r3 _=>?_)
 refine W.lt fun b4 bb_4=>W.gb (fun _=>LZ) fun r5 q_r5=>W.gb (fun gg_6=>by have qq_7:r5.length=6∧ ∀ y∈r5,y.length≤40:=q_r5 gg_6;obtain⟨qq_7_1,qq_7_2⟩:=qq_7;try simp only [bb_4,bz]at gg_6;exact Nq (BT (by assumption) (by omega) (by omega))) (fun r6 _=>?_)
 refine W.lt fun b7 bb_8=>W.rt ?_
 first | assumption | omega | (simp only [bb_4,bb_8,bz];omega) | (simp only [bb_4,bb_8,bz];intros;omega) | (intros;simp only [bb_4,bb_8,bz]at *;omega) | exact⟨by simp,by simp⟩ | decide | simp_all
theorem GX {a0:Int}:W (Dy a0) (fun r=>r.length≤500):=by
 unfold Dy
 refine W.lt fun b1 bb_1=>W.if (fun h=>?_) (fun h=>?_)
 ·try simp only [bb_1,bz]at h
  refine W.rt ?_
  first | omega | decide
 ·try simp only [bb_1,bz]at h
  refine W.bd (LZ) (fun r3 q_r3=>?_)
  replace q_r3:r3.length=6∧ ∀ y∈r3,y.length≤40:=q_r3
  obtain⟨_,_⟩:=q_r3
  have ll_2:IY.length=1:=rfl
  refine W.bd (eD (BT (by assumption) (by omega) (by omega)) (by unfold Fx;omega) (by first | assumption | omega | exact Ae _ | (simp;done) | (simp;omega)) (by first | assumption | omega | exact Ae _ | (simp;done) | (simp;omega)) (by first | assumption | omega | exact Ae _ | (simp;done) | (simp;omega))) (fun r4 q_r4=>?_)
  replace q_r4:r4.length≤500:=q_r4
  refine W.rt ?_
  first | omega | decide
theorem Yx {a0:Int}:W (M0 a0) (fun r=>r.length≤1000):=by
 unfold M0
 try simp only [jn]
 refine W.bd (i8) fun r1 _=>W.if (fun h=>?_) (fun h=>?_)
 ·try simp only [bz]at h
  refine W.rt ?_
  first | omega | decide
 ·try simp only [bz]at h
  refine W.it (fun(v:Int×(List UInt8)×Int)=>0≤v.2.2∧v.2.2≤17∧(v.2.1.length:Int)≤50*v.2.2) (fun v=>(17 - v.2.2).toNat) ?_ ?_ (fun v hv=>?_)
  ·(try dsimp only);first | omega | (simp;omega) | (and_intros<;>first | omega | assumption | (simp;omega) | simp)
  ·(try dsimp only);first | omega | (simp;omega) | (and_intros<;>first | omega | assumption | (simp;omega) | simp)
  ·obtain⟨mask_t0_9,s_t3_10,i_t4_11⟩:=v
   replace hv:0≤i_t4_11∧i_t4_11≤17∧(s_t3_10.length:Int)≤50*i_t4_11:=hv
   show W (K9 mask_t0_9 s_t3_10 i_t4_11) _
   unfold K9
   try simp only [jn]
   refine W.if (fun h=>?_) (fun h=>?_)
   ·try simp only [bz]at h
    refine W.if (fun h=>?_) (fun h=>?_)
    ·try simp only [bz]at h
     refine W.if (fun h=>?_) (fun h=>?_)
     ·try simp only [bz]at h
      have ll_1:IY.length=1:=rfl
      refine W.bd (W.cat (by first | omega | (simp;omega))) (fun s23 q_s23=>?_)
      replace q_s23:s23.length=(s_t3_10).length +(IY).length :=q_s23.2
      unfold K8
      try simp only [jn]
      refine W.bd (PQ) (fun r20 q_r20=>?_)
      replace q_r20:r20.length≤40:=q_r20
      refine W.bd (W.cat (by first | omega | (simp;omega))) (fun s21 q_s21=>?_)
      replace q_s21:s21.length=(s23).length +(r20).length :=q_s21.2
      unfold Hf
      have ww_2:Ac (i_t4_11+(1:Int))=i_t4_11+(1:Int):=Af (by omega) (by omega)
      exact W.nx (by(try dsimp only);first | omega | (and_intros<;>first | omega | assumption) | (simp;omega)) (by(try dsimp only);omega)
     ·try simp only [bz]at h
      unfold K8
      try simp only [jn]
      refine W.bd (PQ) (fun r20 q_r20=>?_)
      replace q_r20:r20.length≤40:=q_r20
      refine W.bd (W.cat (by first | omega | (simp;omega))) (fun s21 q_s21=>?_)
      replace q_s21:s21.length=(s_t3_10).length +(r20).length :=q_s21.2
      unfold Hf
      have ww_3:Ac (i_t4_11+(1:Int))=i_t4_11+(1:Int):=Af (by omega) (by omega)
      exact W.nx (by(try dsimp only);first | omega | (and_intros<;>first | omega | assumption) | (simp;omega)) (by(try dsimp only);omega)
    ·try simp only [bz]at h
     unfold Hf
     have ww_4:Ac (i_t4_11+(1:Int))=i_t4_11+(1:Int):=Af (by omega) (by omega)
     exact W.nx (by(try dsimp only);first | omega | (and_intros<;>first | omega | assumption) | (simp;omega)) (by(try dsimp only);omega)
   ·try simp only [bz]at h
    refine W.ex ?_
    try dsimp only [Sum.elim_inl,Sum.elim_inr]
    unfold UR
    refine W.if (fun h=>?_) (fun h=>?_)
    ·try simp only [bz]at h
     refine W.rt ?_
     have ll_5:Qw.length=4:=rfl
     first | omega | decide
    ·try simp only [bz]at h
     refine W.rt ?_
     first | omega | decide
theorem GY {a0:List UInt8} {a1:Az} (k_a0:Fx a0) (p_0:a0.length≤10) (p_1:0≤a1.Kind∧a1.Kind≤3):W (Dz a0 a1) (fun r=>r.length≤100):=by
 unfold Dz
 refine W.if (fun h=>?_) (fun h=>?_)
 ·try simp only [bz]at h
  refine W.rt ?_
  first | omega | decide
 ·try simp only [bz]at h
  refine W.bd (jb) (fun r2 q_r2=>?_)
  replace q_r2:r2.length=4∧ ∀ y∈r2,y.length≤40:=q_r2
  obtain⟨_,q_r2_2⟩:=q_r2
  refine W.bd (W.idx (by omega)) (fun e3 q_e3=>?_)
  have ll_1:=q_r2_2 e3 q_e3.1
  have:=AN k_a0
  refine W.bd (W.cat (by first | omega | (simp;omega))) (fun s4 q_s4=>?_)
  replace q_s4:s4.length=(a0).length +(e3).length :=q_s4.2
  refine W.bd (FZ) (fun r5 q_r5=>?_)
  replace q_r5:r5.length≤21:=q_r5
  refine W.bd (W.cat (by first | omega | (simp;omega))) (fun s6 q_s6=>?_)
  replace q_s6:s6.length=(s4).length +(r5).length :=q_s6.2
  refine W.rt ?_
  first | omega | decide
theorem OW {a0:Bs} {s_t3_5:List UInt8} (p_0: ∀ i:Int,0≤i→i<5→a0.Color.l.getD i.toNat default≤9) (p_1:s_t3_5.length≤40):W (M1 a0 s_t3_5) (fun r=>True):=by
 unfold M1
 try simp only [jn]
 refine W.it (fun(v:(List UInt8)×Int)=>0≤v.2∧v.2≤5∧(v.1.length:Int)≤40+9*v.2) (fun v=>(5 - v.2).toNat) ?_ ?_ (fun v hv=>?_)
 ·(try dsimp only);first | omega | (simp;omega) | (and_intros<;>first | omega | assumption | (simp;omega) | simp)
 ·(try dsimp only);first | omega | (simp;omega) | (and_intros<;>first | omega | assumption | (simp;omega) | simp)
 ·obtain⟨s_t3_12,i_t5_13⟩:=v
  replace hv:0≤i_t5_13∧i_t5_13≤5∧(s_t3_12.length:Int)≤40+9*i_t5_13:=hv
  show W (Lb a0 s_t3_12 i_t5_13) _
  unfold Lb
  try simp only [jn]
  refine W.if (fun h=>?_) (fun h=>?_)
  ·try simp only [bz]at h
   refine W.it (fun(v:(List UInt8)×Int)=>0≤v.2∧v.2≤9∧(v.1.length:Int)≤40+9*i_t5_13+v.2) (fun v=>(9 - v.2).toNat) ?_ ?_ (fun v hv=>?_)
   ·(try dsimp only);first | omega | (simp;omega) | (and_intros<;>first | omega | assumption | (simp;omega) | simp)
   ·(try dsimp only);first | omega | (simp;omega) | (and_intros<;>first | omega | assumption | (simp;omega) | simp)
   ·obtain⟨s_t3_21,k_t6_22⟩:=v
    replace hv:0≤k_t6_22∧k_t6_22≤9∧(s_t3_21.length:Int)≤40+9*i_t5_13+k_t6_22:=hv
    show W (La a0 i_t5_13 s_t3_21 k_t6_22) _
    unfold La
    have ll_1:a0.Color.l.length=5:=rfl
    refine W.bd (W.idx (by omega)) (fun e25 q_e25=>?_)
    have ee:=p_0 i_t5_13 (by omega) (by omega);rw [←q_e25.2.1]at ee
    refine W.re q_e25.2.2 ?_
    refine W.if (fun h=>?_) (fun h=>?_)
    ·try simp only [bz]at h
     have ll_2:bm.length=5:=rfl
     have ww_3:Ac (i_t5_13+(1:Int))=i_t5_13+(1:Int):=Af (by omega) (by omega)
     refine W.bd (W.ssub (by omega)) (fun s28 q_s28=>?_)
     replace q_s28:(s28.length:Int)=(Ac (i_t5_13+(1:Int))) - i_t5_13:=q_s28
     refine W.bd (W.cat (by first | omega | (simp;omega))) (fun s29 q_s29=>?_)
     replace q_s29:s29.length=(s_t3_21).length +(s28).length :=q_s29.2
     have ww_4:Ac (k_t6_22+(1:Int))=k_t6_22+(1:Int):=Af (by omega) (by omega)
     exact W.nx (by(try dsimp only);first | omega | (and_intros<;>first | omega | assumption) | (simp;omega)) (by(try dsimp only);omega)
    ·try simp only [bz]at h
     refine W.ex ?_
     try dsimp only [Sum.elim_inl,Sum.elim_inr]
     unfold Rb
     have ww_5:Ac (i_t5_13+(1:Int))=i_t5_13+(1:Int):=Af (by omega) (by omega)
     exact W.nx (by(try dsimp only);first | omega | (and_intros<;>first | omega | assumption) | (simp;omega)) (by(try dsimp only);omega)
  ·try simp only [bz]at h
   refine W.ex ?_
   try dsimp only [Sum.elim_inl,Sum.elim_inr]
   unfold US
   exact W.if (fun _=>W.rt trivial) (fun _=>W.rt trivial)
theorem Zv {a0:Bs} {s_t3_3:List UInt8} (k_s_t3_3:Fx s_t3_3) (p_0: ∀ i:Int,0≤i→i<5→a0.Color.l.getD i.toNat default≤9) (p_1:s_t3_3.length≤2):W (M2 a0 s_t3_3) (fun r=>True):=by
 unfold M2
 try simp only [jn]
 refine W.if (fun h=>?_) (fun h=>?_)
 ·try simp only [bz]at h
  refine W.bd (FZ) (fun r31 q_r31=>?_)
  replace q_r31:r31.length≤21:=q_r31
  have:=AN k_s_t3_3
  refine W.bd (W.cat (by first | omega | (simp;omega))) (fun s32 q_s32=>?_)
  replace q_s32:s32.length=(s_t3_3).length +(r31).length :=q_s32.2
  have ll_1:a0.Color.l.length=5:=rfl
  exact OW (by first | assumption | omega | exact Ae _ | (simp;done) | (simp;omega)) (by first | assumption | omega | exact Ae _ | (simp;done) | (simp;omega))
 ·try simp only [bz]at h
  have ll_3:a0.Color.l.length=5:=rfl
  have:=AN k_s_t3_3
  exact OW (by first | assumption | omega | exact Ae _ | (simp;done) | (simp;omega)) (by first | assumption | omega | exact Ae _ | (simp;done) | (simp;omega))
theorem mJ {a0:Bs}:W (Rc a0) (fun r=>True):=by
 unfold Rc
 try simp only [jn]
 refine W.bd (Np) (fun r1 q_r1=>?_)
 replace q_r1:r1=true→a0.X≤2∧ ∀ i:Int,0≤i→i<5→a0.Color.l.getD i.toNat default≤9:=q_r1
 have ll_1:a0.Color.l.length=5:=rfl
 refine W.if (fun _=>W.rt trivial) (fun h=>?_)
 try simp only [bz]at h
 have qq_2:=q_r1 h
 have qq_3:=qq_2.2
 refine W.it (fun(v:(List UInt8)×Int)=>0≤v.2∧v.2≤2∧(v.1.length:Int)≤v.2) (fun v=>(2 - v.2).toNat) ?_ ?_ (fun v hv=>?_)
 ·(try dsimp only);first | omega | (simp;omega) | (and_intros<;>first | omega | assumption | (simp;omega) | simp)
 ·(try dsimp only);first | omega | (simp;omega) | (and_intros<;>first | omega | assumption | (simp;omega) | simp)
 ·obtain⟨s_t3_35,i_t4_36⟩:=v
  replace hv:0≤i_t4_36∧i_t4_36≤2∧(s_t3_35.length:Int)≤i_t4_36:=hv
  show W (Lc a0 s_t3_35 i_t4_36) _
  unfold Lc
  refine W.if (fun h=>?_) (fun h=>?_)
  ·try simp only [bz]at h
   have ll_4:rP.length=1:=rfl
   refine W.bd (W.cat (by first | omega | (simp;omega))) (fun s40 q_s40=>?_)
   replace q_s40:s40.length=(s_t3_35).length +(rP).length :=q_s40.2
   have ww_5:Ac (i_t4_36+(1:Int))=i_t4_36+(1:Int):=Af (by omega) (by omega)
   exact W.nx (by(try dsimp only);first | omega | (and_intros<;>first | omega | assumption) | (simp;omega)) (by(try dsimp only);omega)
  ·try simp only [bz]at h
   refine W.ex ?_
   try dsimp only [Sum.elim_inl,Sum.elim_inr]
   exact Zv (by unfold Fx;omega) (by first | assumption | omega | exact Ae _ | (simp;done) | (simp;omega)) (by first | assumption | omega | exact Ae _ | (simp;done) | (simp;omega))
theorem RO {a0:Ao} {a1:Int} (k_a0:Bk a0):W (FO a0 a1) (fun r=>True):=by
 unfold FO
 refine W.bd (mG k_a0) fun r1 _=>W.rt trivial
theorem eF {a0:Ao} {a1:AO} (k_a0:Bk a0):W (FP a0 a1) (fun r=>True):=by
 unfold FP
 refine W.if (fun h=>?_) (fun h=>?_)
 ·try simp only [bz]at h
  refine W.bd (eC k_a0) fun r2 _=>W.rt trivial
 ·try simp only [bz]at h
  refine W.bd (mH k_a0) (fun r3 q_r3=>?_)
  replace q_r3:B5 8 IR r3:=q_r3
  refine W.bd (U0 q_r3) fun r4 _=>W.rt trivial
end Go.PL
