/- Functions that answer: proofs. -/
import Derived.Test.YtiddnfpjgojoaaaGreatDoorPlEdB
import Derived.Test.YtiddnfpjgojoaaaGreatDoorPlEdF1
import Derived.Test.YtiddnfpjgojoaaaGreatDoorPlEdF2
import Derived.Test.YtiddnfpjgojoaaaGreatDoorPlEdF4
import Derived.Test.YtiddnfpjgojoaaaGreatDoorPlEdF5
import Derived.Test.YtiddnfpjgojoaaaGreatDoorPlEdF6
import Derived.Test.YtiddnfpjgojoaaaGreatDoorPlEtL
import Derived.Test.YtiddnfpjgojoaaaGreatDoorPlEtW0
import Derived.Test.YtiddnfpjgojoaaaGreatDoorPlEtW1
namespace Go.PL
open Go
set_option maxRecDepth 100000
set_option linter.all false
set_option maxHeartbeats 2000000
theorem Ni {a0:Int}:W (G7 a0) (fun r=>True):=by
 unfold G7
 refine W.lt fun b1 bb_1=>W.rt trivial
theorem PH {a0:Int}:W (MB a0) (fun r=>True):=by
 unfold MB
 exact W.if (fun _=>W.rt trivial) (fun _=>W.if (fun _=>W.rt trivial) (fun _=>W.if (fun _=>W.rt trivial) (fun _=>W.rt trivial)))
theorem mj {a0:A6 (Int)}:W (QL a0) (fun r=>True):=by
 unfold QL
 try simp only [jn]
 have ll_1:a0.l.length=6:=rfl
 refine W.bd (W.idx (by omega)) fun e1 q_e1=>W.re q_e1.2.2 ?_
 refine W.it (fun(v:Int×Bs)=>0≤v.1∧(v.1≤(5:Int)∨v.1≤0)) (fun v=>((5:Int) - v.1).toNat) ?_ ?_ (fun v hv=>?_)
 ·(try dsimp only);first | omega | (simp;omega) | (and_intros<;>first | omega | assumption | (simp;omega) | simp)
 ·(try dsimp only);first | omega | (simp;omega) | (and_intros<;>first | omega | assumption | (simp;omega) | simp)
 ·obtain⟨i_t4_8,b3_9⟩:=v
  replace hv:0≤i_t4_8∧(i_t4_8≤(5:Int)∨i_t4_8≤0):=hv
  show W (KM a0 i_t4_8 b3_9) _
  unfold KM
  refine W.if (fun h=>?_) (fun _=>W.ex (W.rt trivial))
  try simp only [bz]at h
  refine W.bd (W.idx (by have ww_2:Ac (i_t4_8+(1:Int))=i_t4_8+(1:Int):=Af (by omega) (by omega);omega)) fun e13 q_e13=>W.re q_e13.2.2 ?_
  have ll_3:b3_9.Color.l.length=5:=rfl
  refine W.bd (W.idx (by omega)) fun e15 _=>W.bd (W.idx (by omega)) (fun e16 _=>?_)
  have ww_4:Ac (i_t4_8+(1:Int))=i_t4_8+(1:Int):=Af (by omega) (by omega)
  exact W.nx (by(try dsimp only);first | omega | (and_intros<;>first | omega | assumption) | (simp;omega)) (by(try dsimp only);omega)
theorem ml {a0:A0}:W (QM a0) (fun r=>True):=by
 unfold QM
 refine W.lt fun b1 bb_1=>W.rt trivial
theorem mm {a0:List (A0)} {a1:List UInt8} (k_a0:B3 176 Cv a0):W (QN a0 a1) (fun r=>True):=by
 unfold QN
 try simp only [jn]
 have:=AX k_a0
 refine W.it (fun(v:Int)=>0≤v∧(v≤(a0.length:Int)∨v≤0)) (fun v=>((a0.length:Int) - v).toNat) (by omega) (by omega) (fun i_t5_3 hv=>?_)
 unfold UD
 refine W.if (fun h=>?_) (fun _=>W.ex (W.rt trivial))
 try simp only [bz]at h
 refine W.bd (W.idx (by omega)) fun e7 _=>W.if (fun _=>W.ex (W.rt trivial)) (fun h=>?_)
 try simp only [bz]at h
 have ww_1:Ac (i_t5_3+(1:Int))=i_t5_3+(1:Int):=Af (by omega) (by omega)
 exact W.nx (by(try dsimp only);first | omega | (and_intros<;>first | omega | assumption) | (simp;omega)) (by(try dsimp only);omega)
theorem iO {a0:List (A0)} {a1:List UInt8} (k_a0:B3 176 Cv a0):W (NU a0 a1) (fun r=>True):=by
 unfold NU
 try simp only [jn]
 have:=AX k_a0
 refine W.it (fun(v:Int)=>0≤v∧(v≤(a0.length:Int)∨v≤0)) (fun v=>((a0.length:Int) - v).toNat) (by omega) (by omega) (fun i_t5_3 hv=>?_)
 unfold QO
 refine W.if (fun h=>?_) (fun _=>W.ex (W.rt trivial))
 try simp only [bz]at h
 refine W.bd (W.idx (by omega)) fun e7 _=>W.gb (fun gg_1=>by try simp only [bz]at gg_1;exact W.idx (by omega)) (fun e8 _=>?_)
 refine W.lt fun b9 bb_2=>W.if (fun _=>W.ex (W.rt trivial)) (fun h=>?_)
 try simp only [bb_2,bz]at h
 have ww_3:Ac (i_t5_3+(1:Int))=i_t5_3+(1:Int):=Af (by omega) (by omega)
 exact W.nx (by(try dsimp only);first | omega | (and_intros<;>first | omega | assumption) | (simp;omega)) (by(try dsimp only);omega)
theorem CL {a0:Int} {a1:Int} {a2:Int}:W (DQ a0 a1 a2) (fun r=>True):=by
 unfold DQ
 refine W.lt fun b1 bb_1=>W.rt trivial
theorem iP {a0:A6 (Int)}:W (NV a0) (fun r=>True):=by
 unfold NV
 try simp only [jn]
 refine W.it (fun(v:Int)=>0≤v∧(v≤(6:Int)∨v≤0)) (fun v=>((6:Int) - v).toNat) (by omega) (by omega) (fun i_t3_3 hv=>?_)
 unfold QP
 refine W.if (fun h=>?_) (fun _=>W.ex (W.rt trivial))
 try simp only [bz]at h
 have ll_1:a0.l.length=6:=rfl
 refine W.bd (W.idx (by omega)) fun e7 q_e7=>W.re q_e7.2.2 ?_
 refine W.gb (fun gg_2=>by try simp only [bz]at gg_2;exact W.idx (by omega)) (fun e9 _=>?_)
 refine W.gb (fun gg_3=>by try simp only [bz]at gg_3;exact W.idx (by omega)) (fun e10 _=>?_)
 refine W.lt fun b11 bb_4=>W.if (fun _=>W.ex (W.rt trivial)) (fun h=>?_)
 try simp only [bb_4,bz]at h
 have ww_5:Ac (i_t3_3+(1:Int))=i_t3_3+(1:Int):=Af (by omega) (by omega)
 exact W.nx (by(try dsimp only);first | omega | (and_intros<;>first | omega | assumption) | (simp;omega)) (by(try dsimp only);omega)
theorem iQ {a0:Ao} {a1:Int} (k_a0:Bj a0):W (NW a0 a1) (fun r=> -1≤r∧r<a0.Objects.length):=by
 unfold NW
 try simp only [jn]
 have:=AX (Eh k_a0)
 refine W.it (fun(v:Int)=>0≤v∧(v≤(a0.Objects.length:Int)∨v≤0)) (fun v=>((a0.Objects.length:Int) - v).toNat) (by omega) (by omega) (fun i_t5_3 hv=>?_)
 unfold QR
 refine W.if (fun h=>?_) (fun h=>?_)
 ·try simp only [bz]at h
  refine W.bd (W.idx (by omega)) fun e7 _=>W.if (fun h=>?_) (fun h=>?_)
  ·try simp only [bz]at h
   refine W.ex ?_
   try dsimp only [Sum.elim_inl,Sum.elim_inr]
   refine W.rt ?_
   first | assumption | omega | (simp only [bz];omega) | (simp only [bz];intros;omega) | (intros;simp only [bz]at *;omega) | exact⟨by simp,by simp⟩ | decide | simp_all
  ·try simp only [bz]at h
   have ww_1:Ac (i_t5_3+(1:Int))=i_t5_3+(1:Int):=Af (by omega) (by omega)
   exact W.nx (by(try dsimp only);first | omega | (and_intros<;>first | omega | assumption) | (simp;omega)) (by(try dsimp only);omega)
 ·try simp only [bz]at h
  refine W.ex ?_
  try dsimp only [Sum.elim_inl,Sum.elim_inr]
  unfold QQ
  refine W.rt ?_
  first | assumption | omega | (simp only [bz];omega) | (simp only [bz];intros;omega) | (intros;simp only [bz]at *;omega) | exact⟨by simp,by simp⟩ | decide | simp_all
theorem US {a0:List (Int)} {a1:Int} (k_a0:B3 8 IH a0):W (Ho a0 a1) (fun r=>True):=by
 unfold Ho
 try simp only [jn]
 have:=AX k_a0
 refine W.it (fun(v:Int×Int)=>0≤v.2∧(v.2≤(a0.length:Int)∨v.2≤0)) (fun v=>((a0.length:Int) - v.2).toNat) ?_ ?_ (fun v hv=>?_)
 ·(try dsimp only);first | omega | (simp;omega) | (and_intros<;>first | omega | assumption | (simp;omega) | simp)
 ·(try dsimp only);first | omega | (simp;omega) | (and_intros<;>first | omega | assumption | (simp;omega) | simp)
 ·obtain⟨k_t5_5,i_t6_6⟩:=v
  replace hv:0≤i_t6_6∧(i_t6_6≤(a0.length:Int)∨i_t6_6≤0):=hv
  show W (KN a0 a1 k_t5_5 i_t6_6) _
  unfold KN
  try simp only [jn]
  refine W.if (fun h=>?_) (fun _=>W.ex (W.rt trivial))
  try simp only [bz]at h
  refine W.bd (W.idx (by omega)) fun e12 _=>W.if (fun h=>?_) (fun h=>?_)
  ·try simp only [bz]at h
   unfold Jn
   have ww_1:Ac (i_t6_6+(1:Int))=i_t6_6+(1:Int):=Af (by omega) (by omega)
   exact W.nx (by(try dsimp only);first | omega | (and_intros<;>first | omega | assumption) | (simp;omega)) (by(try dsimp only);omega)
  ·try simp only [bz]at h
   unfold Jn
   have ww_2:Ac (i_t6_6+(1:Int))=i_t6_6+(1:Int):=Af (by omega) (by omega)
   exact W.nx (by(try dsimp only);first | omega | (and_intros<;>first | omega | assumption) | (simp;omega)) (by(try dsimp only);omega)
theorem sr {a0:A3 (Int)}:W (cW a0) (fun r=>True):=by
 unfold cW
 try simp only [jn]
 refine W.it (fun(v:Int)=>0≤v∧(v≤(3:Int)∨v≤0)) (fun v=>((3:Int) - v).toNat) (by omega) (by omega) (fun i_t3_3 hv=>?_)
 unfold a7
 refine W.if (fun h=>?_) (fun _=>W.ex (W.rt trivial))
 try simp only [bz]at h
 have ll_1:a0.l.length=3:=rfl
 refine W.bd (W.idx (by omega)) fun e7 q_e7=>W.re q_e7.2.2 ?_
 refine W.gb (fun gg_2=>by try simp only [bz]at gg_2;exact W.idx (by omega)) (fun e9 _=>?_)
 refine W.gb (fun gg_3=>by try simp only [bz]at gg_3;exact W.idx (by omega)) (fun e10 _=>?_)
 refine W.lt fun b11 bb_4=>W.if (fun _=>W.ex (W.rt trivial)) (fun h=>?_)
 try simp only [bb_4,bz]at h
 have ww_5:Ac (i_t3_3+(1:Int))=i_t3_3+(1:Int):=Af (by omega) (by omega)
 exact W.nx (by(try dsimp only);first | omega | (and_intros<;>first | omega | assumption) | (simp;omega)) (by(try dsimp only);omega)
theorem mn {a0:AM}:W (QT a0) (fun r=>True):=by
 unfold QT
 exact W.rt trivial
theorem iR {a0:AM}:W (NX a0) (fun r=>True):=by
 unfold NX
 exact W.rt trivial
theorem d9 {a0:Ao} {a1:Int} (k_a0:Bj a0):W (H5 a0 a1) (fun r=>True):=by
 unfold H5
 try simp only [jn]
 have:=AX (Is k_a0)
 refine W.it (fun(v:Int×Int)=>0≤v.2∧(v.2≤(a0.Stack.length:Int)∨v.2≤0)) (fun v=>((a0.Stack.length:Int) - v.2).toNat) ?_ ?_ (fun v hv=>?_)
 ·(try dsimp only);first | omega | (simp;omega) | (and_intros<;>first | omega | assumption | (simp;omega) | simp)
 ·(try dsimp only);first | omega | (simp;omega) | (and_intros<;>first | omega | assumption | (simp;omega) | simp)
 ·obtain⟨n_t5_5,i_t6_6⟩:=v
  replace hv:0≤i_t6_6∧(i_t6_6≤(a0.Stack.length:Int)∨i_t6_6≤0):=hv
  show W (Jo a0 a1 n_t5_5 i_t6_6) _
  unfold Jo
  try simp only [jn]
  refine W.if (fun h=>?_) (fun _=>W.ex (W.rt trivial))
  try simp only [bz]at h
  refine W.bd (W.idx (by omega)) fun e12 _=>W.gb (fun gg_1=>by try simp only [bz]at gg_1;exact W.idx (by omega)) (fun e13 _=>?_)
  refine W.lt fun b14 bb_2=>W.if (fun h=>?_) (fun h=>?_)
  ·try simp only [bb_2,bz]at h
   unfold H4
   have ww_3:Ac (i_t6_6+(1:Int))=i_t6_6+(1:Int):=Af (by omega) (by omega)
   exact W.nx (by(try dsimp only);first | omega | (and_intros<;>first | omega | assumption) | (simp;omega)) (by(try dsimp only);omega)
  ·try simp only [bb_2,bz]at h
   unfold H4
   have ww_4:Ac (i_t6_6+(1:Int))=i_t6_6+(1:Int):=Af (by omega) (by omega)
   exact W.nx (by(try dsimp only);first | omega | (and_intros<;>first | omega | assumption) | (simp;omega)) (by(try dsimp only);omega)
theorem Iu {a0:List Int} (k_a0:B3 8 IH a0):W (Gu a0) (fun r=>B3 8 IH r):=by
 unfold Gu
 have h:=k_a0.1
 refine W.bd (W.app (by simpa using h) (by unfold maxLen;simp;omega)) (fun l1 q=>?_)
 refine W.rt ?_
 rw [q];exact k_a0
theorem Nj {a0:List (BH)} {a1:List (BH)} (k_a0:B3 176 CA a0) (k_a1:B3 176 CA a1):W (E3 a0 a1) (fun r=>True):=by
 unfold E3
 try simp only [jn]
 have:=AX k_a0
 have:=AX k_a1
 refine W.if (fun _=>W.rt trivial) (fun h=>?_)
 try simp only [bz]at h
 refine W.it (fun(v:Int)=>0≤v∧(v≤(a0.length:Int)∨v≤0)) (fun v=>((a0.length:Int) - v).toNat) (by omega) (by omega) (fun i_t5_4 hv=>?_)
 unfold Lx
 refine W.if (fun h=>?_) (fun _=>W.ex (W.rt trivial))
 try simp only [bz]at h
 refine W.bd (W.idx (by omega)) fun e8 _=>W.bd (W.idx (by omega)) fun e9 _=>W.if (fun _=>W.ex (W.rt trivial)) (fun h=>?_)
 try simp only [bz]at h
 have ww_1:Ac (i_t5_4+(1:Int))=i_t5_4+(1:Int):=Af (by omega) (by omega)
 exact W.nx (by(try dsimp only);first | omega | (and_intros<;>first | omega | assumption) | (simp;omega)) (by(try dsimp only);omega)
theorem su {a0:List (Int)} (k_a0:B3 8 IH a0):W (cZ a0) (fun r=>True):=by
 unfold cZ
 try simp only [jn]
 have:=AX k_a0
 refine W.it (fun(v:Int)=>1≤v∧(v≤(a0.length:Int)∨v≤1)) (fun v=>((a0.length:Int) - v).toNat) (by omega) (by omega) (fun i_t3_3 hv=>?_)
 unfold a8
 refine W.if (fun h=>?_) (fun _=>W.ex (W.rt trivial))
 try simp only [bz]at h
 refine W.bd (W.idx (by have ww_1:Ac (i_t3_3 - (1:Int))=i_t3_3 - (1:Int):=Af (by omega) (by omega);omega)) fun e7 _=>W.bd (W.idx (by omega)) fun e8 _=>W.if (fun _=>W.ex (W.rt trivial)) (fun h=>?_)
 try simp only [bz]at h
 have ww_2:Ac (i_t3_3+(1:Int))=i_t3_3+(1:Int):=Af (by omega) (by omega)
 exact W.nx (by(try dsimp only);first | omega | (and_intros<;>first | omega | assumption) | (simp;omega)) (by(try dsimp only);omega)
theorem Cd {a0:Int}:W (Ce a0) (fun r=>True):=by
 unfold Ce
 exact W.if (fun _=>W.rt trivial) (fun _=>W.if (fun _=>W.rt trivial) (fun _=>W.rt trivial))
theorem Nk {a0:Int}:W (Dt a0) (fun r=>True):=by
 unfold Dt
 try simp only [jn]
 refine W.if (fun _=>W.rt trivial) (fun h=>?_)
 try simp only [bz]at h
 refine W.if (fun h=>?_) (fun h=>?_)
 ·try simp only [bz]at h
  unfold E6
  try simp only [jn]
  refine W.if (fun _=>W.rt trivial) (fun h=>?_)
  try simp only [bz]at h
  refine W.if (fun h=>?_) (fun h=>?_)
  ·try simp only [bz]at h
   unfold Co
   try simp only [jn]
   refine W.if (fun _=>W.rt trivial) (fun h=>?_)
   try simp only [bz]at h
   refine W.if (fun h=>?_) (fun h=>?_)
   ·try simp only [bz]at h
    unfold AW
    exact W.if (fun _=>W.rt trivial) (fun _=>W.if (fun _=>W.rt trivial) (fun _=>W.if (fun _=>W.rt trivial) (fun _=>W.if (fun _=>W.rt trivial) (fun _=>W.if (fun _=>W.rt trivial) (fun _=>W.rt trivial)))))
   ·try simp only [bz]at h
    refine W.if (fun h=>?_) (fun h=>?_)
    ·try simp only [bz]at h
     unfold AW
     exact W.if (fun _=>W.rt trivial) (fun _=>W.if (fun _=>W.rt trivial) (fun _=>W.if (fun _=>W.rt trivial) (fun _=>W.if (fun _=>W.rt trivial) (fun _=>W.if (fun _=>W.rt trivial) (fun _=>W.rt trivial)))))
    ·try simp only [bz]at h
     unfold AW
     exact W.if (fun _=>W.rt trivial) (fun _=>W.if (fun _=>W.rt trivial) (fun _=>W.if (fun _=>W.rt trivial) (fun _=>W.if (fun _=>W.rt trivial) (fun _=>W.if (fun _=>W.rt trivial) (fun _=>W.rt trivial)))))
  ·try simp only [bz]at h
   unfold Co
   try simp only [jn]
   refine W.if (fun _=>W.rt trivial) (fun h=>?_)
   try simp only [bz]at h
   refine W.if (fun h=>?_) (fun h=>?_)
   ·try simp only [bz]at h
    unfold AW
    exact W.if (fun _=>W.rt trivial) (fun _=>W.if (fun _=>W.rt trivial) (fun _=>W.if (fun _=>W.rt trivial) (fun _=>W.if (fun _=>W.rt trivial) (fun _=>W.if (fun _=>W.rt trivial) (fun _=>W.rt trivial)))))
   ·try simp only [bz]at h
    refine W.if (fun h=>?_) (fun h=>?_)
    ·try simp only [bz]at h
     unfold AW
     exact W.if (fun _=>W.rt trivial) (fun _=>W.if (fun _=>W.rt trivial) (fun _=>W.if (fun _=>W.rt trivial) (fun _=>W.if (fun _=>W.rt trivial) (fun _=>W.if (fun _=>W.rt trivial) (fun _=>W.rt trivial)))))
    ·try simp only [bz]at h
     unfold AW
     exact W.if (fun _=>W.rt trivial) (fun _=>W.if (fun _=>W.rt trivial) (fun _=>W.if (fun _=>W.rt trivial) (fun _=>W.if (fun _=>W.rt trivial) (fun _=>W.if (fun _=>W.rt trivial) (fun _=>W.rt trivial)))))
 ·try simp only [bz]at h
  refine W.if (fun h=>?_) (fun h=>?_)
  ·try simp only [bz]at h
   unfold E6
   try simp only [jn]
   refine W.if (fun _=>W.rt trivial) (fun h=>?_)
   try simp only [bz]at h
   refine W.if (fun h=>?_) (fun h=>?_)
   ·try simp only [bz]at h
    unfold Co
    try simp only [jn]
    refine W.if (fun _=>W.rt trivial) (fun h=>?_)
    try simp only [bz]at h
    refine W.if (fun h=>?_) (fun h=>?_)
    ·try simp only [bz]at h
     unfold AW
     exact W.if (fun _=>W.rt trivial) (fun _=>W.if (fun _=>W.rt trivial) (fun _=>W.if (fun _=>W.rt trivial) (fun _=>W.if (fun _=>W.rt trivial) (fun _=>W.if (fun _=>W.rt trivial) (fun _=>W.rt trivial)))))
    ·try simp only [bz]at h
     refine W.if (fun h=>?_) (fun h=>?_)
     ·try simp only [bz]at h
      unfold AW
      exact W.if (fun _=>W.rt trivial) (fun _=>W.if (fun _=>W.rt trivial) (fun _=>W.if (fun _=>W.rt trivial) (fun _=>W.if (fun _=>W.rt trivial) (fun _=>W.if (fun _=>W.rt trivial) (fun _=>W.rt trivial)))))
     ·try simp only [bz]at h
      unfold AW
      exact W.if (fun _=>W.rt trivial) (fun _=>W.if (fun _=>W.rt trivial) (fun _=>W.if (fun _=>W.rt trivial) (fun _=>W.if (fun _=>W.rt trivial) (fun _=>W.if (fun _=>W.rt trivial) (fun _=>W.rt trivial)))))
   ·try simp only [bz]at h
    unfold Co
    try simp only [jn]
    refine W.if (fun _=>W.rt trivial) (fun h=>?_)
    try simp only [bz]at h
    refine W.if (fun h=>?_) (fun h=>?_)
    ·try simp only [bz]at h
     unfold AW
     exact W.if (fun _=>W.rt trivial) (fun _=>W.if (fun _=>W.rt trivial) (fun _=>W.if (fun _=>W.rt trivial) (fun _=>W.if (fun _=>W.rt trivial) (fun _=>W.if (fun _=>W.rt trivial) (fun _=>W.rt trivial)))))
    ·try simp only [bz]at h
     refine W.if (fun h=>?_) (fun h=>?_)
     ·try simp only [bz]at h
      unfold AW
      exact W.if (fun _=>W.rt trivial) (fun _=>W.if (fun _=>W.rt trivial) (fun _=>W.if (fun _=>W.rt trivial) (fun _=>W.if (fun _=>W.rt trivial) (fun _=>W.if (fun _=>W.rt trivial) (fun _=>W.rt trivial)))))
     ·try simp only [bz]at h
      unfold AW
      exact W.if (fun _=>W.rt trivial) (fun _=>W.if (fun _=>W.rt trivial) (fun _=>W.if (fun _=>W.rt trivial) (fun _=>W.if (fun _=>W.rt trivial) (fun _=>W.if (fun _=>W.rt trivial) (fun _=>W.rt trivial)))))
  ·try simp only [bz]at h
   refine W.if (fun h=>?_) (fun h=>?_)
   ·try simp only [bz]at h
    unfold E6
    try simp only [jn]
    refine W.if (fun _=>W.rt trivial) (fun h=>?_)
    try simp only [bz]at h
    refine W.if (fun h=>?_) (fun h=>?_)
    ·try simp only [bz]at h
     unfold Co
     try simp only [jn]
     refine W.if (fun _=>W.rt trivial) (fun h=>?_)
     try simp only [bz]at h
     refine W.if (fun h=>?_) (fun h=>?_)
     ·try simp only [bz]at h
      unfold AW
      exact W.if (fun _=>W.rt trivial) (fun _=>W.if (fun _=>W.rt trivial) (fun _=>W.if (fun _=>W.rt trivial) (fun _=>W.if (fun _=>W.rt trivial) (fun _=>W.if (fun _=>W.rt trivial) (fun _=>W.rt trivial)))))
     ·try simp only [bz]at h
      refine W.if (fun h=>?_) (fun h=>?_)
      ·try simp only [bz]at h
       unfold AW
       exact W.if (fun _=>W.rt trivial) (fun _=>W.if (fun _=>W.rt trivial) (fun _=>W.if (fun _=>W.rt trivial) (fun _=>W.if (fun _=>W.rt trivial) (fun _=>W.if (fun _=>W.rt trivial) (fun _=>W.rt trivial)))))
      ·try simp only [bz]at h
       unfold AW
       exact W.if (fun _=>W.rt trivial) (fun _=>W.if (fun _=>W.rt trivial) (fun _=>W.if (fun _=>W.rt trivial) (fun _=>W.if (fun _=>W.rt trivial) (fun _=>W.if (fun _=>W.rt trivial) (fun _=>W.rt trivial)))))
    ·try simp only [bz]at h
     unfold Co
     try simp only [jn]
     refine W.if (fun _=>W.rt trivial) (fun h=>?_)
     try simp only [bz]at h
     refine W.if (fun h=>?_) (fun h=>?_)
     ·try simp only [bz]at h
      unfold AW
      exact W.if (fun _=>W.rt trivial) (fun _=>W.if (fun _=>W.rt trivial) (fun _=>W.if (fun _=>W.rt trivial) (fun _=>W.if (fun _=>W.rt trivial) (fun _=>W.if (fun _=>W.rt trivial) (fun _=>W.rt trivial)))))
     ·try simp only [bz]at h
      refine W.if (fun h=>?_) (fun h=>?_)
      ·try simp only [bz]at h
       unfold AW
       exact W.if (fun _=>W.rt trivial) (fun _=>W.if (fun _=>W.rt trivial) (fun _=>W.if (fun _=>W.rt trivial) (fun _=>W.if (fun _=>W.rt trivial) (fun _=>W.if (fun _=>W.rt trivial) (fun _=>W.rt trivial)))))
      ·try simp only [bz]at h
       unfold AW
       exact W.if (fun _=>W.rt trivial) (fun _=>W.if (fun _=>W.rt trivial) (fun _=>W.if (fun _=>W.rt trivial) (fun _=>W.if (fun _=>W.rt trivial) (fun _=>W.if (fun _=>W.rt trivial) (fun _=>W.rt trivial)))))
   ·try simp only [bz]at h
    unfold E6
    try simp only [jn]
    refine W.if (fun _=>W.rt trivial) (fun h=>?_)
    try simp only [bz]at h
    refine W.if (fun h=>?_) (fun h=>?_)
    ·try simp only [bz]at h
     unfold Co
     try simp only [jn]
     refine W.if (fun _=>W.rt trivial) (fun h=>?_)
     try simp only [bz]at h
     refine W.if (fun h=>?_) (fun h=>?_)
     ·try simp only [bz]at h
      unfold AW
      exact W.if (fun _=>W.rt trivial) (fun _=>W.if (fun _=>W.rt trivial) (fun _=>W.if (fun _=>W.rt trivial) (fun _=>W.if (fun _=>W.rt trivial) (fun _=>W.if (fun _=>W.rt trivial) (fun _=>W.rt trivial)))))
     ·try simp only [bz]at h
      refine W.if (fun h=>?_) (fun h=>?_)
      ·try simp only [bz]at h
       unfold AW
       exact W.if (fun _=>W.rt trivial) (fun _=>W.if (fun _=>W.rt trivial) (fun _=>W.if (fun _=>W.rt trivial) (fun _=>W.if (fun _=>W.rt trivial) (fun _=>W.if (fun _=>W.rt trivial) (fun _=>W.rt trivial)))))
      ·try simp only [bz]at h
       unfold AW
       exact W.if (fun _=>W.rt trivial) (fun _=>W.if (fun _=>W.rt trivial) (fun _=>W.if (fun _=>W.rt trivial) (fun _=>W.if (fun _=>W.rt trivial) (fun _=>W.if (fun _=>W.rt trivial) (fun _=>W.rt trivial)))))
    ·try simp only [bz]at h
     unfold Co
     try simp only [jn]
     refine W.if (fun _=>W.rt trivial) (fun h=>?_)
     try simp only [bz]at h
     refine W.if (fun h=>?_) (fun h=>?_)
     ·try simp only [bz]at h
      unfold AW
      exact W.if (fun _=>W.rt trivial) (fun _=>W.if (fun _=>W.rt trivial) (fun _=>W.if (fun _=>W.rt trivial) (fun _=>W.if (fun _=>W.rt trivial) (fun _=>W.if (fun _=>W.rt trivial) (fun _=>W.rt trivial)))))
     ·try simp only [bz]at h
      refine W.if (fun h=>?_) (fun h=>?_)
      ·try simp only [bz]at h
       unfold AW
       exact W.if (fun _=>W.rt trivial) (fun _=>W.if (fun _=>W.rt trivial) (fun _=>W.if (fun _=>W.rt trivial) (fun _=>W.if (fun _=>W.rt trivial) (fun _=>W.if (fun _=>W.rt trivial) (fun _=>W.rt trivial)))))
      ·try simp only [bz]at h
       unfold AW
       exact W.if (fun _=>W.rt trivial) (fun _=>W.if (fun _=>W.rt trivial) (fun _=>W.if (fun _=>W.rt trivial) (fun _=>W.if (fun _=>W.rt trivial) (fun _=>W.if (fun _=>W.rt trivial) (fun _=>W.rt trivial)))))
theorem UT {a0:Ao} {a1:Int} (k_a0:Bj a0):W (J3 a0 a1) (fun r=> -1≤r∧r<a0.Objects.length):=by
 unfold J3
 try simp only [jn]
 have:=AX (Eh k_a0)
 refine W.it (fun(v:Int)=>0≤v∧(v≤(a0.Objects.length:Int)∨v≤0)) (fun v=>((a0.Objects.length:Int) - v).toNat) (by omega) (by omega) (fun i_t5_3 hv=>?_)
 unfold QX
 refine W.if (fun h=>?_) (fun h=>?_)
 ·try simp only [bz]at h
  refine W.bd (W.idx (by omega)) fun e7 _=>W.if (fun h=>?_) (fun h=>?_)
  ·try simp only [bz]at h
   refine W.ex ?_
   try dsimp only [Sum.elim_inl,Sum.elim_inr]
   refine W.rt ?_
   first | assumption | omega | (simp only [bz];omega) | (simp only [bz];intros;omega) | (intros;simp only [bz]at *;omega) | exact⟨by simp,by simp⟩ | decide | simp_all
  ·try simp only [bz]at h
   have ww_1:Ac (i_t5_3+(1:Int))=i_t5_3+(1:Int):=Af (by omega) (by omega)
   exact W.nx (by(try dsimp only);first | omega | (and_intros<;>first | omega | assumption) | (simp;omega)) (by(try dsimp only);omega)
 ·try simp only [bz]at h
  refine W.ex ?_
  try dsimp only [Sum.elim_inl,Sum.elim_inr]
  unfold QW
  refine W.rt ?_
  first | assumption | omega | (simp only [bz];omega) | (simp only [bz];intros;omega) | (intros;simp only [bz]at *;omega) | exact⟨by simp,by simp⟩ | decide | simp_all
theorem iS {a0:List (Int)} {a1:Int} (k_a0:B3 8 IH a0):W (NY a0 a1) (fun r=>True):=by
 unfold NY
 try simp only [jn]
 have:=AX k_a0
 refine W.it (fun(v:Int)=>0≤v∧(v≤(a0.length:Int)∨v≤0)) (fun v=>((a0.length:Int) - v).toNat) (by omega) (by omega) (fun i_t5_3 hv=>?_)
 unfold QY
 refine W.if (fun h=>?_) (fun _=>W.ex (W.rt trivial))
 try simp only [bz]at h
 refine W.bd (W.idx (by omega)) fun e7 _=>W.if (fun _=>W.ex (W.rt trivial)) (fun h=>?_)
 try simp only [bz]at h
 have ww_1:Ac (i_t5_3+(1:Int))=i_t5_3+(1:Int):=Af (by omega) (by omega)
 exact W.nx (by(try dsimp only);first | omega | (and_intros<;>first | omega | assumption) | (simp;omega)) (by(try dsimp only);omega)
theorem pz {a0:Int} {a1:Int} {a2:Int}:W (VK a0 a1 a2) (fun r=>True):=by
 unfold VK
 refine W.if (fun _=>W.rt trivial) (fun h=>?_)
 try simp only [bz]at h
 refine W.lt fun b2 bb_1=>W.rt trivial
theorem mo {a0:Int} {a1:Int} {a2:Int}:W (QZ a0 a1 a2) (fun r=>True):=by
 unfold QZ
 refine W.if (fun _=>W.rt trivial) (fun h=>?_)
 try simp only [bz]at h
 refine W.lt fun b2 bb_1=>W.rt trivial
theorem pA {a0:Bool} {a1:Int}:W (VL a0 a1) (fun r=>True):=by
 unfold VL
 refine W.if (fun _=>W.rt trivial) (fun h=>?_)
 try simp only [bz]at h
 refine W.lt fun b2 bb_1=>W.rt trivial
theorem Ez {a0:Int} {a1:Int}:W (C4 a0 a1) (fun r=>True):=by
 unfold C4
 exact W.rt trivial
theorem pB {a0:Int} {a1:Int}:W (VM a0 a1) (fun r=>True):=by
 unfold VM
 exact W.rt trivial
theorem Nl {a0:Ax} {a1:Int}:W (Hp a0 a1) (fun r=>True):=by
 unfold Hp
 exact W.if (fun _=>W.rt trivial) (fun _=>W.if (fun _=>W.rt trivial) (fun _=>W.if (fun _=>W.rt trivial) (fun _=>W.if (fun _=>W.rt trivial) (fun _=>W.rt trivial))))
theorem Yf {a0:List (Int)} {a1:List (Int)} (k_a0:B3 8 IH a0) (k_a1:B3 8 IH a1):W (J4 a0 a1) (fun r=>True):=by
 unfold J4
 try simp only [jn]
 have:=AX k_a0
 have:=AX k_a1
 refine W.if (fun _=>W.rt trivial) (fun h=>?_)
 try simp only [bz]at h
 refine W.it (fun(v:Int)=>0≤v∧(v≤(a0.length:Int)∨v≤0)) (fun v=>((a0.length:Int) - v).toNat) (by omega) (by omega) (fun i_t5_4 hv=>?_)
 unfold UF
 refine W.if (fun h=>?_) (fun _=>W.ex (W.rt trivial))
 try simp only [bz]at h
 refine W.bd (W.idx (by omega)) fun e8 _=>W.bd (W.idx (by omega)) fun e9 _=>W.if (fun _=>W.ex (W.rt trivial)) (fun h=>?_)
 try simp only [bz]at h
 have ww_1:Ac (i_t5_4+(1:Int))=i_t5_4+(1:Int):=Af (by omega) (by omega)
 exact W.nx (by(try dsimp only);first | omega | (and_intros<;>first | omega | assumption) | (simp;omega)) (by(try dsimp only);omega)
theorem RG {a0:List UInt8} (k_a0:Fq a0):W (SE a0) (fun r=>r=true→a0.length≤32):=by
 unfold SE
 try simp only [jn]
 refine W.lt fun b1 bb_1=>W.gb (fun gg_2=>by try simp only [bb_1,bz]at gg_2;have:=AL k_a0;exact W.sidx (by omega)) (fun c2 _=>?_)
 refine W.gb (fun _=>bn) fun r3 _=>W.lt fun b4 bb_4=>W.gb (fun gg_5=>by try simp only [bb_1,bb_4,bz]at gg_5;have:=AL k_a0;exact W.sidx (by have ww_6:Ac ((a0.length:Int) - (1:Int))=(a0.length:Int) - (1:Int):=Af (by omega) (by omega);omega)) (fun c5 _=>?_)
 refine W.lt fun b6 bb_7=>W.if (fun h=>?_) (fun h=>?_)
 ·try simp only [bb_1,bb_4,bb_7,bz]at h
  refine W.rt ?_
  first | (intro hz;cases hz;done) | (intro _;omega)
 ·try simp only [bb_1,bb_4,bb_7,bz]at h
  have:=AL k_a0
  refine W.it (fun(v:Int)=>0≤v∧(v≤(a0.length:Int)∨v≤0)) (fun v=>((a0.length:Int) - v).toNat) (by omega) (by omega) (fun i_t3_10 hv=>?_)
  unfold XD
  refine W.if (fun h=>?_) (fun h=>?_)
  ·try simp only [bb_1,bb_4,bb_7,bz]at h
   refine W.bd (W.sidx (by omega)) fun c14 _=>W.bd (bn) fun r15 _=>W.gb (fun gg_8=>by try simp only [bb_1,bb_4,bb_7,bz]at gg_8;exact W.sidx (by omega)) (fun c16 _=>?_)
   refine W.gb (fun gg_9=>by try simp only [bb_1,bb_4,bb_7,bz]at gg_9;exact W.sidx (by omega)) (fun c17 _=>?_)
   refine W.lt fun b18 bb_10=>W.lt fun b19 bb_11=>W.gb (fun gg_12=>by try simp only [bb_1,bb_4,bb_7,bb_10,bb_11,bz]at gg_12;exact W.sidx (by omega)) (fun c20 _=>?_)
   refine W.lt fun b21 bb_13=>W.if (fun h=>?_) (fun h=>?_)
   ·try simp only [bb_1,bb_4,bb_7,bb_10,bb_11,bb_13,bz]at h
    refine W.ex ?_
    try dsimp only [Sum.elim_inl,Sum.elim_inr]
    refine W.rt ?_
    first | (intro hz;cases hz;done) | (intro _;omega)
   ·try simp only [bb_1,bb_4,bb_7,bb_10,bb_11,bb_13,bz]at h
    refine W.gb (fun gg_14=>by try simp only [bb_1,bb_4,bb_7,bb_10,bb_11,bb_13,bz]at gg_14;exact W.sidx (by omega)) (fun c23 _=>?_)
    refine W.lt fun b24 bb_15=>W.gb (fun gg_16=>by try simp only [bb_1,bb_4,bb_7,bb_10,bb_11,bb_13,bb_15,bz]at gg_16;exact W.sidx (by have ww_17:Ac (i_t3_10 - (1:Int))=i_t3_10 - (1:Int):=Af (by omega) (by omega);omega)) (fun c25 _=>?_)
    refine W.lt fun b26 bb_18=>W.if (fun h=>?_) (fun h=>?_)
    ·try simp only [bb_1,bb_4,bb_7,bb_10,bb_11,bb_13,bb_15,bb_18,bz]at h
     refine W.ex ?_
     try dsimp only [Sum.elim_inl,Sum.elim_inr]
     refine W.rt ?_
     first | (intro hz;cases hz;done) | (intro _;omega)
    ·try simp only [bb_1,bb_4,bb_7,bb_10,bb_11,bb_13,bb_15,bb_18,bz]at h
     have ww_19:Ac (i_t3_10+(1:Int))=i_t3_10+(1:Int):=Af (by omega) (by omega)
     exact W.nx (by(try dsimp only);first | omega | (and_intros<;>first | omega | assumption) | (simp;omega)) (by(try dsimp only);omega)
  ·try simp only [bb_1,bb_4,bb_7,bz]at h
   refine W.ex ?_
   try dsimp only [Sum.elim_inl,Sum.elim_inr]
   unfold ba
   refine W.rt ?_
   first | (intro hz;cases hz;done) | (intro _;omega)
theorem eb {a0:List (List UInt8)} {a1:Int} {a2:List UInt8} (k_a0:B3 16 Fq a0) (k_a2:Fq a2) (p_0:a0.length≤10) (p_1: ∀ y∈a0,y.length≤40) (p_2:a2.length≤1):W (KP a0 a1 a2) (fun r=>r.length≤500):=by
 unfold KP
 try simp only [jn]
 have:=AX k_a0
 refine W.it (fun(v:(List UInt8)×Int)=>0≤v.2∧(v.2≤a0.length∨v.2≤0)∧(v.1.length:Int)≤41*v.2) (fun v=>((a0.length:Int) - v.2).toNat) ?_ ?_ (fun v hv=>?_)
 ·(try dsimp only);first | omega | (simp;omega) | (and_intros<;>first | omega | assumption | (simp;omega) | simp)
 ·(try dsimp only);first | omega | (simp;omega) | (and_intros<;>first | omega | assumption | (simp;omega) | simp)
 ·obtain⟨s_t7_5,i_t8_6⟩:=v
  replace hv:0≤i_t8_6∧(i_t8_6≤a0.length∨i_t8_6≤0)∧(s_t7_5.length:Int)≤41*i_t8_6:=hv
  show W (Jp a0 a1 a2 s_t7_5 i_t8_6) _
  unfold Jp
  try simp only [jn]
  refine W.if (fun h=>?_) (fun h=>?_)
  ·try simp only [bz]at h
   refine W.bd (S1 (by first | assumption | omega | exact Ae _ | (simp;done) | (simp;omega))) fun r12 _=>W.if (fun h=>?_) (fun h=>?_)
   ·try simp only [bz]at h
    refine W.if (fun h=>?_) (fun h=>?_)
    ·try simp only [bz]at h
     have:=AL k_a2
     refine W.bd (W.cat (by first | omega | (simp;omega))) (fun s19 q_s19=>?_)
     replace q_s19:s19.length=(s_t7_5).length +(a2).length :=q_s19.2
     unfold Ib
     try simp only [jn]
     refine W.bd (W.idx (by omega)) (fun e16 q_e16=>?_)
     have ll_1:=p_1 e16 q_e16.1
     have:=AL (show Fq e16 from Bo k_a0 q_e16.1)
     refine W.bd (W.cat (by first | omega | (simp;omega))) (fun s17 q_s17=>?_)
     replace q_s17:s17.length=(s19).length +(e16).length :=q_s17.2
     unfold E7
     have ww_2:Ac (i_t8_6+(1:Int))=i_t8_6+(1:Int):=Af (by omega) (by omega)
     exact W.nx (by(try dsimp only);first | omega | (and_intros<;>first | omega | assumption) | (simp;omega)) (by(try dsimp only);omega)
    ·try simp only [bz]at h
     unfold Ib
     try simp only [jn]
     refine W.bd (W.idx (by omega)) (fun e16 q_e16=>?_)
     have ll_3:=p_1 e16 q_e16.1
     have:=AL (show Fq e16 from Bo k_a0 q_e16.1)
     refine W.bd (W.cat (by first | omega | (simp;omega))) (fun s17 q_s17=>?_)
     replace q_s17:s17.length=(s_t7_5).length +(e16).length :=q_s17.2
     unfold E7
     have ww_4:Ac (i_t8_6+(1:Int))=i_t8_6+(1:Int):=Af (by omega) (by omega)
     exact W.nx (by(try dsimp only);first | omega | (and_intros<;>first | omega | assumption) | (simp;omega)) (by(try dsimp only);omega)
   ·try simp only [bz]at h
    unfold E7
    have ww_5:Ac (i_t8_6+(1:Int))=i_t8_6+(1:Int):=Af (by omega) (by omega)
    exact W.nx (by(try dsimp only);first | omega | (and_intros<;>first | omega | assumption) | (simp;omega)) (by(try dsimp only);omega)
  ·try simp only [bz]at h
   refine W.ex ?_
   try dsimp only [Sum.elim_inl,Sum.elim_inr]
   unfold OA
   refine W.rt ?_
   first | assumption | omega | (simp only [bz];omega) | (simp only [bz];intros;omega) | (intros;simp only [bz]at *;omega) | exact⟨by simp,by simp⟩ | decide | simp_all
theorem Yg {a0:Int}:W (MH a0) (fun r=>r.length≤150):=by
 unfold MH
 try simp only [jn]
 refine W.bd (sq) fun r1 _=>W.if (fun h=>?_) (fun h=>?_)
 ·try simp only [bz]at h
  refine W.rt ?_
  first | assumption | omega | (simp only [bz];omega) | (simp only [bz];intros;omega) | (intros;simp only [bz]at *;omega) | exact⟨by simp,by simp⟩ | decide | simp_all
 ·try simp only [bz]at h
  refine W.if (fun h=>?_) (fun h=>?_)
  ·try simp only [bz]at h
   refine W.rt ?_
   have ll_1:Qr.length=4:=rfl
   first | assumption | omega | (simp only [bz];omega) | (simp only [bz];intros;omega) | (intros;simp only [bz]at *;omega) | exact⟨by simp,by simp⟩ | decide | simp_all
  ·try simp only [bz]at h
   refine W.it (fun(v:(List UInt8)×Int)=>0≤v.2∧v.2≤5∧(v.1.length:Int)≤20*v.2) (fun v=>(5 - v.2).toNat) ?_ ?_ (fun v hv=>?_)
   ·(try dsimp only);first | omega | (simp;omega) | (and_intros<;>first | omega | assumption | (simp;omega) | simp)
   ·(try dsimp only);first | omega | (simp;omega) | (and_intros<;>first | omega | assumption | (simp;omega) | simp)
   ·obtain⟨out_t3_8,i_t4_9⟩:=v
    replace hv:0≤i_t4_9∧i_t4_9≤5∧(out_t3_8.length:Int)≤20*i_t4_9:=hv
    show W (KR a0 out_t3_8 i_t4_9) _
    unfold KR
    try simp only [jn]
    refine W.if (fun h=>?_) (fun h=>?_)
    ·try simp only [bz]at h
     refine W.bd (W.need (by first | omega | (refine qh ?_;omega))) fun u15 _=>W.bd (W.need (by first | omega | (refine qh ?_;omega))) fun u16 _=>W.if (fun h=>?_) (fun h=>?_)
     ·try simp only [bz]at h
      refine W.if (fun h=>?_) (fun h=>?_)
      ·try simp only [bz]at h
       have ll_2:IQ.length=1:=rfl
       refine W.bd (W.cat (by first | omega | (simp;omega))) (fun s23 q_s23=>?_)
       replace q_s23:s23.length=(out_t3_8).length +(IQ).length :=q_s23.2
       unfold KQ
       try simp only [jn]
       refine W.bd (Lm) (fun r20 q_r20=>?_)
       replace q_r20:r20.length≤10:=q_r20
       refine W.bd (W.cat (by first | omega | (simp;omega))) (fun s21 q_s21=>?_)
       replace q_s21:s21.length=(s23).length +(r20).length :=q_s21.2
       unfold G8
       have ww_3:Ac (i_t4_9+(1:Int))=i_t4_9+(1:Int):=Af (by omega) (by omega)
       exact W.nx (by(try dsimp only);first | omega | (and_intros<;>first | omega | assumption) | (simp;omega)) (by(try dsimp only);omega)
      ·try simp only [bz]at h
       unfold KQ
       try simp only [jn]
       refine W.bd (Lm) (fun r20 q_r20=>?_)
       replace q_r20:r20.length≤10:=q_r20
       refine W.bd (W.cat (by first | omega | (simp;omega))) (fun s21 q_s21=>?_)
       replace q_s21:s21.length=(out_t3_8).length +(r20).length :=q_s21.2
       unfold G8
       have ww_4:Ac (i_t4_9+(1:Int))=i_t4_9+(1:Int):=Af (by omega) (by omega)
       exact W.nx (by(try dsimp only);first | omega | (and_intros<;>first | omega | assumption) | (simp;omega)) (by(try dsimp only);omega)
     ·try simp only [bz]at h
      unfold G8
      have ww_5:Ac (i_t4_9+(1:Int))=i_t4_9+(1:Int):=Af (by omega) (by omega)
      exact W.nx (by(try dsimp only);first | omega | (and_intros<;>first | omega | assumption) | (simp;omega)) (by(try dsimp only);omega)
    ·try simp only [bz]at h
     refine W.ex ?_
     try dsimp only [Sum.elim_inl,Sum.elim_inr]
     unfold UH
     refine W.rt ?_
     first | assumption | omega | (simp only [bz];omega) | (simp only [bz];intros;omega) | (intros;simp only [bz]at *;omega) | exact⟨by simp,by simp⟩ | decide | simp_all
theorem PI {a0:Int}:W (MI a0) (fun r=>r.length≤40):=by
 unfold MI
 refine W.lt fun b1 bb_1=>W.if (fun h=>?_) (fun h=>?_)
 ·try simp only [bb_1,bz]at h
  refine W.rt ?_
  first | assumption | omega | (simp only [bb_1,bz];omega) | (simp only [bb_1,bz];intros;omega) | (intros;simp only [bb_1,bz]at *;omega) | exact⟨by simp,by simp⟩ | decide | simp_all
 ·try simp only [bb_1,bz]at h
  refine W.bd (iL) (fun r3 q_r3=>?_)
  replace q_r3:r3.length=17∧ ∀ y∈r3,y.length≤40:=q_r3
  obtain⟨_,q_r3_2⟩:=q_r3
  refine W.bd (W.idx (by omega)) (fun e4 q_e4=>?_)
  have ll_2:=q_r3_2 e4 q_e4.1
  refine W.rt ?_
  first | assumption | omega | (simp only [bb_1,bz];omega) | (simp only [bb_1,bz];intros;omega) | (intros;simp only [bb_1,bz]at *;omega) | exact⟨by simp,by simp⟩ | decide | simp_all
theorem FT {a0:Int}:W (E8 a0) (fun r=>r.length≤21):=by
 unfold E8
 refine W.if (fun h=>?_) (fun h=>?_)
 ·try simp only [bz]at h
  refine W.bd (RE (by first | assumption | omega | exact Ae _ | (simp;done) | (simp;omega))) (fun r2 q_r2=>?_)
  replace q_r2:r2.length≤20:=q_r2
  have ll_1:cE.length=1:=rfl
  refine W.bd (W.cat (by first | omega | (simp;omega))) (fun s3 q_s3=>?_)
  replace q_s3:s3.length=(cE).length +(r2).length :=q_s3.2
  refine W.rt ?_
  first | assumption | omega | (simp only [bz];omega) | (simp only [bz];intros;omega) | (intros;simp only [bz]at *;omega) | exact⟨by simp,by simp⟩ | decide | simp_all
 ·try simp only [bz]at h
  refine W.bd (RE (by first | assumption | omega | exact Ae _ | (simp;done) | (simp;omega))) (fun r4 q_r4=>?_)
  replace q_r4:r4.length≤20:=q_r4
  refine W.rt ?_
  first | assumption | omega | (simp only [bz];omega) | (simp only [bz];intros;omega) | (intros;simp only [bz]at *;omega) | exact⟨by simp,by simp⟩ | decide | simp_all
theorem UU {a0:EF}:W (NZ a0) (fun r=>True):=by
 unfold NZ
 refine W.bd (Nf) (fun r1 q_r1=>?_)
 replace q_r1:r1=true→a0.Mana.X≤2∧ ∀ i:Int,0≤i→i<5→a0.Mana.Color.l.getD i.toNat default≤9:=q_r1
 have ll_1:a0.Mana.Color.l.length=5:=rfl
 refine W.lt fun b2 bb_2=>W.lt fun b3 bb_3=>W.lt fun b4 bb_4=>W.rt trivial
theorem Vi {a0:Int}:W (F5 a0) (fun r=>True):=by
 unfold F5
 refine W.bd (Ye) fun r1 _=>W.gb (fun _=>RF) fun r2 _=>W.lt fun b3 bb_2=>W.lt fun b4 bb_3=>W.rt trivial
theorem Al {a0:Int} {a1:Int}:W (DT a0 a1) (fun r=>True):=by
 unfold DT
 try simp only [jn]
 refine W.bd (mi) (fun r1 q_r1=>?_)
 replace q_r1:r1.length≤5:=q_r1
 refine W.it (fun(v:Int)=>0≤v∧(v≤(r1.length:Int)∨v≤0)) (fun v=>((r1.length:Int) - v).toNat) (by omega) (by omega) (fun i_t6_4 hv=>?_)
 unfold UI
 refine W.if (fun h=>?_) (fun _=>W.ex (W.rt trivial))
 try simp only [bz]at h
 refine W.bd (W.sidx (by omega)) fun c8 _=>W.if (fun _=>W.ex (W.rt trivial)) (fun h=>?_)
 try simp only [bz]at h
 have ww_1:Ac (i_t6_4+(1:Int))=i_t6_4+(1:Int):=Af (by omega) (by omega)
 exact W.nx (by(try dsimp only);first | omega | (and_intros<;>first | omega | assumption) | (simp;omega)) (by(try dsimp only);omega)
theorem Ze {a0:List (A0)} {a1:A0} (k_a0:B3 176 Cv a0) (k_a1:Cv a1):W (IY a0 a1) (fun r=>True):=by
 unfold IY
 try simp only [jn]
 have:=AX (CK k_a1)
 refine W.it (fun(v:Int)=>0≤v∧(v≤(a1.Abilities.length:Int)∨v≤0)) (fun v=>((a1.Abilities.length:Int) - v).toNat) (by omega) (by omega) (fun i_t5_3 hv=>?_)
 unfold MK
 try simp only [jn]
 refine W.if (fun h=>?_) (fun _=>W.ex (W.rt trivial))
 try simp only [bz]at h
 refine W.it (fun(v:Int)=>0≤v∧v≤140737488355328) (fun v=>(140737488355328 - v).toNat) (by omega) (by omega) (fun k_t6_9 hv=>?_)
 unfold LA
 refine W.bd (W.idx (by omega)) (fun e12 q_e12=>?_)
 have:=AX (AB (show Bk e12 from Bo (CK k_a1) q_e12.1))
 refine W.if (fun h=>?_) (fun h=>?_)
 ·try simp only [bz]at h
  refine W.re q_e12.2.2 ?_
  refine W.bd (W.idx (by omega)) fun e15 _=>W.gb (fun _=>iO k_a0) fun r16 _=>W.lt fun b17 bb_2=>W.if (fun h=>?_) (fun h=>?_)
  ·try simp only [bb_2,bz]at h
   refine W.ex ?_
   try dsimp only [Sum.elim_inl,Sum.elim_inr]
   exact W.ex (W.rt trivial)
  ·try simp only [bb_2,bz]at h
   have ww_3:Ac (k_t6_9+(1:Int))=k_t6_9+(1:Int):=Af (by omega) (by omega)
   exact W.nx (by(try dsimp only);first | omega | (and_intros<;>first | omega | assumption) | (simp;omega)) (by(try dsimp only);omega)
 ·try simp only [bz]at h
  refine W.ex ?_
  try dsimp only [Sum.elim_inl,Sum.elim_inr]
  unfold MJ
  have ww_4:Ac (i_t5_3+(1:Int))=i_t5_3+(1:Int):=Af (by omega) (by omega)
  exact W.nx (by(try dsimp only);first | omega | (and_intros<;>first | omega | assumption) | (simp;omega)) (by(try dsimp only);omega)
theorem mq {a0:Ao} {a1:Int} (k_a0:Bj a0):W (Q0 a0 a1) (fun r=>True):=by
 unfold Q0
 refine W.bd (iQ k_a0) (fun r1 q_r1=>?_)
 replace q_r1: -1≤r1∧r1<a0.Objects.length:=q_r1
 have:=AX (Eh k_a0)
 refine W.if (fun _=>W.rt trivial) (fun h=>?_)
 try simp only [bz]at h
 refine W.bd (W.idx (by omega)) fun e3 _=>W.rt trivial
theorem De {a0:Ao} {a1:Int}:W (CP a0 a1) (fun r=>True):=by
 unfold CP
 refine W.bd (CL) fun r1 _=>W.rt trivial
theorem sv {a0:AM} {a1:Int} {a2:Int}:W (de a0 a1 a2) (fun r=>True):=by
 unfold de
 refine W.lt fun b1 bb_1=>W.lt fun b2 bb_2=>W.lt fun b3 bb_3=>W.lt fun b4 bb_4=>W.lt fun b5 bb_5=>W.lt fun b6 bb_6=>W.lt fun b7 bb_7=>W.lt fun b8 bb_8=>W.if (fun _=>W.rt trivial) (fun h=>?_)
 try simp only [bb_1,bb_2,bb_3,bb_4,bb_5,bb_6,bb_7,bb_8,bz]at h
 refine W.lt fun b10 bb_9=>W.lt fun b11 bb_10=>W.lt fun b12 bb_11=>W.lt fun b13 bb_12=>W.lt fun b14 bb_13=>W.lt fun b15 bb_14=>W.lt fun b16 bb_15=>W.if (fun _=>W.rt trivial) (fun h=>?_)
 try simp only [bb_1,bb_2,bb_3,bb_4,bb_5,bb_6,bb_7,bb_8,bb_9,bb_10,bb_11,bb_12,bb_13,bb_14,bb_15,bz]at h
 refine W.bd (sr) fun r18 _=>W.lt fun b19 bb_16=>W.lt fun b20 bb_17=>W.lt fun b21 bb_18=>W.lt fun b22 bb_19=>W.if (fun _=>W.rt trivial) (fun h=>?_)
 try simp only [bb_1,bb_2,bb_3,bb_4,bb_5,bb_6,bb_7,bb_8,bb_9,bb_10,bb_11,bb_12,bb_13,bb_14,bb_15,bb_16,bb_17,bb_18,bb_19,bz]at h
 refine W.gb (fun _=>mn) fun r24 _=>W.gb (fun _=>iR) fun r25 _=>W.lt fun b26 bb_22=>W.lt fun b27 bb_23=>W.lt fun b28 bb_24=>W.lt fun b29 bb_25=>W.lt fun b30 bb_26=>W.rt trivial
theorem mr {a0:Ao} {a1:Int} {a2:Int} (k_a0:Bj a0):W (ML a0 a1 a2) (fun r=>B3 8 IH r):=by
 unfold ML
 refine W.if (fun h=>?_) (fun h=>?_)
 ·try simp only [bz]at h
  refine W.bd (Iu (GD k_a0)) (fun r2 q_r2=>?_)
  replace q_r2:B3 8 IH r2:=q_r2
  refine W.rt ?_
  exact q_r2
 ·try simp only [bz]at h
  refine W.if (fun h=>?_) (fun h=>?_)
  ·try simp only [bz]at h
   refine W.bd (Iu (Nd k_a0)) (fun r4 q_r4=>?_)
   replace q_r4:B3 8 IH r4:=q_r4
   refine W.rt ?_
   exact q_r4
  ·try simp only [bz]at h
   refine W.lt fun b5 bb_1=>W.if (fun h=>?_) (fun h=>?_)
   ·try simp only [bb_1,bz]at h
    refine W.rt ?_
    exact G0
   ·try simp only [bb_1,bz]at h
    refine W.if (fun h=>?_) (fun h=>?_)
    ·try simp only [bb_1,bz]at h
     have:=AX (Bt k_a0)
     refine W.bd (W.idx (by omega)) fun e8 q_e8=>W.bd (Iu (Nc (show Cs e8 from Bo (Bt k_a0) q_e8.1))) (fun r9 q_r9=>?_)
     replace q_r9:B3 8 IH r9:=q_r9
     refine W.rt ?_
     exact q_r9
    ·try simp only [bb_1,bz]at h
     refine W.if (fun h=>?_) (fun h=>?_)
     ·try simp only [bb_1,bz]at h
      have:=AX (Bt k_a0)
      refine W.bd (W.idx (by omega)) fun e11 q_e11=>W.bd (Iu (Ja (show Cs e11 from Bo (Bt k_a0) q_e11.1))) (fun r12 q_r12=>?_)
      replace q_r12:B3 8 IH r12:=q_r12
      refine W.rt ?_
      exact q_r12
     ·try simp only [bb_1,bz]at h
      refine W.if (fun h=>?_) (fun h=>?_)
      ·try simp only [bb_1,bz]at h
       have:=AX (Bt k_a0)
       refine W.bd (W.idx (by omega)) fun e14 q_e14=>W.bd (Iu (GU (show Cs e14 from Bo (Bt k_a0) q_e14.1))) (fun r15 q_r15=>?_)
       replace q_r15:B3 8 IH r15:=q_r15
       refine W.rt ?_
       exact q_r15
      ·try simp only [bb_1,bz]at h
       refine W.rt ?_
       exact G0
theorem mt {a0:AU} {a1:AU} (k_a0:BL a0) (k_a1:BL a1):W (Q1 a0 a1) (fun r=>True):=by
 unfold Q1
 refine W.lt fun b1 bb_1=>W.lt fun b2 bb_2=>W.lt fun b3 bb_3=>W.lt fun b4 bb_4=>W.lt fun b5 bb_5=>W.lt fun b6 bb_6=>W.lt fun b7 bb_7=>W.gb (fun _=>Nj (BE k_a0) (BE k_a1)) fun r8 _=>W.lt fun b9 bb_9=>W.rt trivial
theorem pC {a0:Int} {a1:Int}:W (VN a0 a1) (fun r=>True):=by
 unfold VN
 refine W.bd (Cd) fun r1 _=>W.bd (Cd) fun r2 _=>W.bd (Cd) fun r3 _=>W.rt trivial
theorem FV {a0:Int} {a1:Int}:W (F6 a0 a1) (fun r=>True):=by
 unfold F6
 refine W.bd (Cd) fun r1 _=>W.bd (Cd) fun r2 _=>W.bd (Cd) fun r3 _=>W.rt trivial
theorem ec {a0:Bs}:W (If a0) (fun r=>True):=by
 unfold If
 try simp only [jn]
 refine W.bd (Nf) (fun r1 q_r1=>?_)
 replace q_r1:r1=true→a0.X≤2∧ ∀ i:Int,0≤i→i<5→a0.Color.l.getD i.toNat default≤9:=q_r1
 have ll_1:a0.Color.l.length=5:=rfl
 refine W.if (fun _=>W.rt trivial) (fun h=>?_)
 try simp only [bz]at h
 have qq_2:=q_r1 h
 have qq_3:=qq_2.2
 refine W.it (fun(v:Int×Int×Int)=>0≤v.2.2∧(v.2.2≤(5:Int)∨v.2.2≤0)) (fun v=>((5:Int) - v.2.2).toNat) ?_ ?_ (fun v hv=>?_)
 ·(try dsimp only);first | omega | (simp;omega) | (and_intros<;>first | omega | assumption | (simp;omega) | simp)
 ·(try dsimp only);first | omega | (simp;omega) | (and_intros<;>first | omega | assumption | (simp;omega) | simp)
 ·obtain⟨mask_t3_8,bit_t4_9,i_t5_10⟩:=v
  replace hv:0≤i_t5_10∧(i_t5_10≤(5:Int)∨i_t5_10≤0):=hv
  show W (Ie a0 mask_t3_8 bit_t4_9 i_t5_10) _
  unfold Ie
  try simp only [jn]
  refine W.if (fun h=>?_) (fun _=>W.ex (W.rt trivial))
  try simp only [bz]at h
  refine W.bd (W.idx (by omega)) fun e16 q_e16=>W.re q_e16.2.2 ?_
  refine W.if (fun h=>?_) (fun h=>?_)
  ·try simp only [bz]at h
   unfold Ic
   have ww_4:Ac (i_t5_10+(1:Int))=i_t5_10+(1:Int):=Af (by omega) (by omega)
   exact W.nx (by(try dsimp only);first | omega | (and_intros<;>first | omega | assumption) | (simp;omega)) (by(try dsimp only);omega)
  ·try simp only [bz]at h
   unfold Ic
   have ww_5:Ac (i_t5_10+(1:Int))=i_t5_10+(1:Int):=Af (by omega) (by omega)
   exact W.nx (by(try dsimp only);first | omega | (and_intros<;>first | omega | assumption) | (simp;omega)) (by(try dsimp only);omega)
theorem Zf {a0:AS} {a1:Int} (k_a0:CZ a0):W (IZ a0 a1) (fun r=>True):=by
 unfold IZ
 try simp only [jn]
 have:=AX (F7 k_a0)
 refine W.it (fun(v:Int)=>0≤v∧(v≤(a0.Mods.length:Int)∨v≤0)) (fun v=>((a0.Mods.length:Int) - v).toNat) (by omega) (by omega) (fun k_t5_3 hv=>?_)
 unfold MN
 refine W.if (fun h=>?_) (fun _=>W.ex (W.rt trivial))
 try simp only [bz]at h
 refine W.bd (W.idx (by omega)) fun e7 _=>W.bd (Nk) fun r8 _=>W.if (fun _=>W.ex (W.rt trivial)) (fun h=>?_)
 try simp only [bz]at h
 have ww_1:Ac (k_t5_3+(1:Int))=k_t5_3+(1:Int):=Af (by omega) (by omega)
 exact W.nx (by(try dsimp only);first | omega | (and_intros<;>first | omega | assumption) | (simp;omega)) (by(try dsimp only);omega)
theorem bp {a0:List (Int)} {a1:Int} (k_a0:B3 8 IH a0):W (N0 a0 a1) (fun r=>True):=by
 unfold N0
 refine W.bd (iS k_a0) fun r1 _=>W.rt trivial
theorem RH {a0:BX} {a1:List UInt8} (k_a0:Fl a0):W (FI a0 a1) (fun r=>True):=by
 unfold FI
 refine W.bd (Ng (Ee k_a0)) fun r1 _=>W.rt trivial
theorem br {a0:Int} {a1:Int}:W (VO a0 a1) (fun r=>True):=by
 unfold VO
 refine W.bd (Cd) fun r1 _=>W.bd (Cd) fun r2 _=>W.bd (Cd) fun r3 _=>W.rt trivial
theorem iU {a0:AS} {a1:Int} (k_a0:CZ a0):W (J7 a0 a1) (fun r=>True):=by
 unfold J7
 try simp only [jn]
 have:=AX (F7 k_a0)
 refine W.it (fun(v:Int)=>0≤v∧(v≤(a0.Mods.length:Int)∨v≤0)) (fun v=>((a0.Mods.length:Int) - v).toNat) (by omega) (by omega) (fun k_t5_3 hv=>?_)
 unfold Q5
 refine W.if (fun h=>?_) (fun _=>W.ex (W.rt trivial))
 try simp only [bz]at h
 refine W.bd (W.idx (by omega)) fun e7 _=>W.gb (fun gg_1=>by try simp only [bz]at gg_1;exact W.idx (by omega)) (fun e8 _=>?_)
 refine W.gb (fun _=>Nk) fun r9 _=>W.lt fun b10 bb_3=>W.if (fun _=>W.ex (W.rt trivial)) (fun h=>?_)
 try simp only [bb_3,bz]at h
 have ww_4:Ac (k_t5_3+(1:Int))=k_t5_3+(1:Int):=Af (by omega) (by omega)
 exact W.nx (by(try dsimp only);first | omega | (and_intros<;>first | omega | assumption) | (simp;omega)) (by(try dsimp only);omega)
theorem D6 {a0:List UInt8} (k_a0:Fq a0):W (EP a0) (fun r=>r=true→a0.length≤32):=by
 unfold EP
 refine W.bd (RG k_a0) (fun r1 q_r1=>?_)
 replace q_r1:r1=true→a0.length≤32:=q_r1
 have:=AL k_a0
 refine W.gb (fun _=>S0) fun r2 q_r2=>W.gb (fun gg_2=>by have qq_3:r2.length=2∧ ∀ y∈r2,y.length≤40:=q_r2 gg_2;obtain⟨qq_3_1,qq_3_2⟩:=qq_3;try simp only [bz]at gg_2;exact Ng (BS (by assumption) (by omega) (by omega))) (fun r3 _=>?_)
 refine W.lt fun b4 bb_4=>W.gb (fun _=>LM) fun r5 q_r5=>W.gb (fun gg_6=>by have qq_7:r5.length=6∧ ∀ y∈r5,y.length≤40:=q_r5 gg_6;obtain⟨qq_7_1,qq_7_2⟩:=qq_7;try simp only [bb_4,bz]at gg_6;exact Ng (BS (by assumption) (by omega) (by omega))) (fun r6 _=>?_)
 refine W.lt fun b7 bb_8=>W.rt ?_
 first | assumption | omega | (simp only [bb_4,bb_8,bz];omega) | (simp only [bb_4,bb_8,bz];intros;omega) | (intros;simp only [bb_4,bb_8,bz]at *;omega) | exact⟨by simp,by simp⟩ | decide | simp_all
theorem GR {a0:Int}:W (Dv a0) (fun r=>r.length≤500):=by
 unfold Dv
 refine W.lt fun b1 bb_1=>W.if (fun h=>?_) (fun h=>?_)
 ·try simp only [bb_1,bz]at h
  refine W.rt ?_
  first | assumption | omega | (simp only [bb_1,bz];omega) | (simp only [bb_1,bz];intros;omega) | (intros;simp only [bb_1,bz]at *;omega) | exact⟨by simp,by simp⟩ | decide | simp_all
 ·try simp only [bb_1,bz]at h
  refine W.bd (LM) (fun r3 q_r3=>?_)
  replace q_r3:r3.length=6∧ ∀ y∈r3,y.length≤40:=q_r3
  obtain⟨_,_⟩:=q_r3
  have ll_2:IQ.length=1:=rfl
  refine W.bd (eb (BS (by assumption) (by omega) (by omega)) (by unfold Fq;omega) (by first | assumption | omega | exact Ae _ | (simp;done) | (simp;omega)) (by first | assumption | omega | exact Ae _ | (simp;done) | (simp;omega)) (by first | assumption | omega | exact Ae _ | (simp;done) | (simp;omega))) (fun r4 q_r4=>?_)
  replace q_r4:r4.length≤500:=q_r4
  refine W.rt ?_
  first | assumption | omega | (simp only [bb_1,bz];omega) | (simp only [bb_1,bz];intros;omega) | (intros;simp only [bb_1,bz]at *;omega) | exact⟨by simp,by simp⟩ | decide | simp_all
end Go.PL
