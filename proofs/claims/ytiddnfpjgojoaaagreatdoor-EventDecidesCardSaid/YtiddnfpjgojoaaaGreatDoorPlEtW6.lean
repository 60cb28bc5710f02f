/- Functions that answer: proofs. -/
import Derived.Test.YtiddnfpjgojoaaaGreatDoorPlEdF19
import Derived.Test.YtiddnfpjgojoaaaGreatDoorPlEdF20
import Derived.Test.YtiddnfpjgojoaaaGreatDoorPlEdF21
import Derived.Test.YtiddnfpjgojoaaaGreatDoorPlEdF22
import Derived.Test.YtiddnfpjgojoaaaGreatDoorPlEtL
import Derived.Test.YtiddnfpjgojoaaaGreatDoorPlEtW0
import Derived.Test.YtiddnfpjgojoaaaGreatDoorPlEtW1
import Derived.Test.YtiddnfpjgojoaaaGreatDoorPlEtW2
import Derived.Test.YtiddnfpjgojoaaaGreatDoorPlEtW3
import Derived.Test.YtiddnfpjgojoaaaGreatDoorPlEtW4
import Derived.Test.YtiddnfpjgojoaaaGreatDoorPlEtW5
namespace Go.PL
open Go
set_option maxRecDepth 100000
set_option linter.all false
set_option maxHeartbeats 2000000
theorem sP {a0:A1} (k_a0:Cy a0):W (eg a0) (fun r=>r=true→a0.Abilities.length≤8):=by
 unfold eg
 try simp only [jn]
 refine W.bd (RM (Lx k_a0)) (fun r1 q_r1=>?_)
 replace q_r1:r1=true→a0.Name.length≤32:=q_r1
 have:=AN (Lx k_a0)
 refine W.gb (fun _=>Np) fun r2 _=>W.lt fun b3 bb_2=>W.gb (fun _=>sM (Ly k_a0)) fun r4 _=>W.lt fun b5 bb_4=>W.gb (fun _=>i8) fun r6 _=>W.lt fun b7 bb_6=>W.lt fun b8 bb_7=>W.lt fun b9 bb_8=>W.if (fun h=>?_) (fun h=>?_)
 ·try simp only [bb_2,bb_4,bb_6,bb_7,bb_8,bz]at h
  refine W.rt ?_
  first | (intro hz;cases hz;done) | (intro _;omega)
 ·try simp only [bb_2,bb_4,bb_6,bb_7,bb_8,bz]at h
  refine W.lt fun b11 bb_9=>W.lt fun b12 bb_10=>W.lt fun b13 bb_11=>W.gb (fun _=>Yr) fun r14 _=>W.lt fun b15 bb_13=>W.lt fun b16 bb_14=>W.lt fun b17 bb_15=>W.lt fun b18 bb_16=>W.if (fun h=>?_) (fun h=>?_)
  ·try simp only [bb_2,bb_4,bb_6,bb_7,bb_8,bb_9,bb_10,bb_11,bb_13,bb_14,bb_15,bb_16,bz]at h
   refine W.rt ?_
   first | (intro hz;cases hz;done) | (intro _;omega)
  ·try simp only [bb_2,bb_4,bb_6,bb_7,bb_8,bb_9,bb_10,bb_11,bb_13,bb_14,bb_15,bb_16,bz]at h
   have:=AY (CN k_a0)
   refine W.it (fun(v:Int×Int)=>0≤v.2∧(v.2≤(a0.Abilities.length:Int)∨v.2≤0)) (fun v=>((a0.Abilities.length:Int) - v.2).toNat) ?_ ?_ (fun v hv=>?_)
   ·(try dsimp only);first | omega | (simp;omega) | (and_intros<;>first | omega | assumption | (simp;omega) | simp)
   ·(try dsimp only);first | omega | (simp;omega) | (and_intros<;>first | omega | assumption | (simp;omega) | simp)
   ·obtain⟨vt3_32,vt4_33⟩:=v
    replace hv:0≤vt4_33∧(vt4_33≤(a0.Abilities.length:Int)∨vt4_33≤0):=hv
    show W (PG a0 vt3_32 vt4_33) _
    unfold PG
    try simp only [jn]
    refine W.if (fun h=>?_) (fun h=>?_)
    ·try simp only [bb_2,bb_4,bb_6,bb_7,bb_8,bb_9,bb_10,bb_11,bb_13,bb_14,bb_15,bb_16,bz]at h
     refine W.bd (W.idx (by omega)) fun e40 q_e40=>W.bd (RS (show Bl e40 from Bp (CN k_a0) q_e40.1)) fun r41 _=>W.if (fun h=>?_) (fun h=>?_)
     ·try simp only [bb_2,bb_4,bb_6,bb_7,bb_8,bb_9,bb_10,bb_11,bb_13,bb_14,bb_15,bb_16,bz]at h
      refine W.ex ?_
      try dsimp only [Sum.elim_inl,Sum.elim_inr]
      refine W.rt ?_
      first | (intro hz;cases hz;done) | (intro _;omega)
     ·try simp only [bb_2,bb_4,bb_6,bb_7,bb_8,bb_9,bb_10,bb_11,bb_13,bb_14,bb_15,bb_16,bz]at h
      refine W.re q_e40.2.2 ?_
      refine W.if (fun h=>?_) (fun h=>?_)
      ·try simp only [bb_2,bb_4,bb_6,bb_7,bb_8,bb_9,bb_10,bb_11,bb_13,bb_14,bb_15,bb_16,bz]at h
       unfold PF
       have ww_17:Ac (vt4_33+(1:Int))=vt4_33+(1:Int):=Af (by omega) (by omega)
       exact W.nx (by(try dsimp only);first | omega | (and_intros<;>first | omega | assumption) | (simp;omega)) (by(try dsimp only);omega)
      ·try simp only [bb_2,bb_4,bb_6,bb_7,bb_8,bb_9,bb_10,bb_11,bb_13,bb_14,bb_15,bb_16,bz]at h
       unfold PF
       have ww_18:Ac (vt4_33+(1:Int))=vt4_33+(1:Int):=Af (by omega) (by omega)
       exact W.nx (by(try dsimp only);first | omega | (and_intros<;>first | omega | assumption) | (simp;omega)) (by(try dsimp only);omega)
    ·try simp only [bb_2,bb_4,bb_6,bb_7,bb_8,bb_9,bb_10,bb_11,bb_13,bb_14,bb_15,bb_16,bz]at h
     refine W.ex ?_
     try dsimp only [Sum.elim_inl,Sum.elim_inr]
     unfold Yg
     refine W.bd (mC) fun r22 _=>W.if (fun h=>?_) (fun h=>?_)
     ·try simp only [bb_2,bb_4,bb_6,bb_7,bb_8,bb_9,bb_10,bb_11,bb_13,bb_14,bb_15,bb_16,bz]at h
      refine W.lt fun b24 bb_19=>W.lt fun b25 bb_20=>W.lt fun b26 bb_21=>W.rt ?_
      first | (intro hz;cases hz;done) | (intro _;omega)
     ·try simp only [bb_2,bb_4,bb_6,bb_7,bb_8,bb_9,bb_10,bb_11,bb_13,bb_14,bb_15,bb_16,bz]at h
      refine W.lt fun b27 bb_22=>W.lt fun b28 bb_23=>W.lt fun b29 bb_24=>W.rt ?_
      first | (intro hz;cases hz;done) | (intro _;omega)
theorem mN {a0:Ao} {a1:H6} (k_a0:Bk a0) (k_a1:Lz a1):W (RB a0 a1) (fun r=>True):=by
 unfold RB
 refine W.bd (CO) fun r1 _=>W.gb (fun _=>CO) fun r2 _=>W.lt fun b3 bb_2=>W.lt fun b4 bb_3=>W.gb (fun _=>Di) fun r5 _=>W.lt fun b6 bb_5=>W.if (fun _=>W.rt trivial) (fun h=>?_)
 try simp only [bb_2,bb_3,bb_5,bz]at h
 refine W.bd (RO k_a0) fun r8 _=>W.if (fun h=>?_) (fun h=>?_)
 ·try simp only [bb_2,bb_3,bb_5,bz]at h
  refine W.bd (mK (GW k_a1) (by simp [Fs,AZ,CC,FX,Jh,S4,Hy,BN,EJ,Bl,Cy,Cv,Lz,FY,Jj,Bk,A8,C4,sG,Fx,B5,IR])) fun r10 _=>W.lt fun b11 bb_6=>W.lt fun b12 bb_7=>W.gb (fun _=>RS (GW k_a1)) fun r13 _=>W.lt fun b14 bb_9=>W.lt fun b15 bb_10=>W.rt trivial
 ·try simp only [bb_2,bb_3,bb_5,bz]at h
  refine W.lt fun b16 bb_11=>W.gb (fun _=>RS (GW k_a1)) fun r17 _=>W.lt fun b18 bb_13=>W.rt trivial
theorem jm {a0:List (A1)} (k_a0:B5 176 Cy a0):W (Of a0) (fun r=>r.2=0→ ∀ y∈a0,y.Abilities.length≤8):=by
 unfold Of
 simp only [jn]
 have ll_1:a0.length≤140737488355328:=ni (by decide) k_a0
 refine W.if (fun _=>W.rt (fun h=>by cases h)) (fun _=>?_)
 refine W.it (fun(v:Int)=>0≤v∧v≤a0.length∧ ∀ i:Nat,(i:Int)<v→(a0.getD i default).Abilities.length ≤8) (fun v=>((a0.length:Int) - v).toNat) ⟨by omega,by omega,fun i h1=>by omega⟩ (by omega) (fun v hv=>?_)
 obtain⟨v1,v2,v3⟩:=hv
 unfold RC
 have w2:=fun h=>Af (x:=v+1) (by omega) h
 refine W.if (fun hi=>?_) (fun hi=>?_)
 ·simp only [bz]at hi
  have w2:=w2 (by omega)
  refine W.bd (W.idx (by omega)) (fun e9 q9=>?_)
  have k9:=Bp k_a0 q9.1
  refine W.bd (sP k9) (fun r10 q10=>?_)
  refine W.if (fun _=>W.ex (W.rt (fun h=>by cases h))) (fun h10=>?_)
  simp only [bz]at h10
  refine W.re q9.2.2 ?_
  refine W.bd (mD k_a0) (fun r13 _=>?_)
  refine W.if (fun _=>W.ex (W.rt (fun h=>by cases h))) (fun _=>?_)
  refine W.re q9.2.2 ?_
  refine W.bd (Zt k_a0 k9) (fun r16 _=>?_)
  refine W.if (fun _=>W.ex (W.rt (fun h=>by cases h))) (fun _=>?_)
  refine W.nx ⟨by omega,by omega,fun i k1=>?_⟩ (by omega)
  by_cases k:(i:Int)<v
  ·exact v3 i k
  ·obtain rfl:i=v.toNat:=by omega
   rw [←q9.2.1];exact q10 h10
 ·simp only [bz]at hi
  refine W.ex (W.rt (fun _ y hy=>?_))
  obtain⟨i,hi,rfl⟩:=List.getElem_of_mem hy
  have:=v3 i (by omega)
  rwa [List.getD_eq_getElem?_getD,List.getElem?_eq_getElem hi]at this
theorem jo {a0:Ao} (k_a0:Bk a0):W (Og a0) (fun r=>r=true→a0.Conts.length≤64):=by
 unfold Og
 try simp only [jn]
 refine W.lt fun b1 bb_1=>W.lt fun b2 bb_2=>W.if (fun h=>?_) (fun h=>?_)
 ·try simp only [bb_1,bb_2,bz]at h
  refine W.rt ?_
  first | (intro hz;cases hz;done) | (intro _;omega)
 ·try simp only [bb_1,bb_2,bz]at h
  have:=AY (IA k_a0)
  refine W.it (fun(v:Int)=>0≤v∧(v≤(a0.Stack.length:Int)∨v≤0)) (fun v=>((a0.Stack.length:Int) - v).toNat) (by omega) (by omega) (fun i_t3_34 hv=>?_)
  unfold OV
  try simp only [jn]
  refine W.if (fun h=>?_) (fun h=>?_)
  ·try simp only [bb_1,bb_2,bz]at h
   refine W.bd (W.idx (by omega)) fun e39 q_e39=>W.bd (mN k_a0 (show Lz e39 from Bp (IA k_a0) q_e39.1)) fun r40 _=>W.if (fun h=>?_) (fun h=>?_)
   ·try simp only [bb_1,bb_2,bz]at h
    refine W.ex ?_
    try dsimp only [Sum.elim_inl,Sum.elim_inr]
    refine W.rt ?_
    first | (intro hz;cases hz;done) | (intro _;omega)
   ·try simp only [bb_1,bb_2,bz]at h
    refine W.it (fun(v:Int)=>0≤v∧(v≤i_t3_34∨v≤0)) (fun v=>(i_t3_34 - v).toNat) (by omega) (by omega) (fun k_t4_43 hv=>?_)
    unfold OU
    refine W.if (fun h=>?_) (fun h=>?_)
    ·try simp only [bb_1,bb_2,bz]at h
     refine W.bd (W.idx (by omega)) fun e47 _=>W.re q_e39.2.2 ?_
     refine W.if (fun h=>?_) (fun h=>?_)
     ·try simp only [bb_1,bb_2,bz]at h
      refine W.ex ?_
      try dsimp only [Sum.elim_inl,Sum.elim_inr]
      refine W.ex ?_
      try dsimp only [Sum.elim_inl,Sum.elim_inr]
      refine W.rt ?_
      first | (intro hz;cases hz;done) | (intro _;omega)
     ·try simp only [bb_1,bb_2,bz]at h
      have ww_3:Ac (k_t4_43+(1:Int))=k_t4_43+(1:Int):=Af (by omega) (by omega)
      exact W.nx (by(try dsimp only);first | omega | (and_intros<;>first | omega | assumption) | (simp;omega)) (by(try dsimp only);omega)
    ·try simp only [bb_1,bb_2,bz]at h
     refine W.ex ?_
     try dsimp only [Sum.elim_inl,Sum.elim_inr]
     unfold OT
     have ww_4:Ac (i_t3_34+(1:Int))=i_t3_34+(1:Int):=Af (by omega) (by omega)
     exact W.nx (by(try dsimp only);first | omega | (and_intros<;>first | omega | assumption) | (simp;omega)) (by(try dsimp only);omega)
  ·try simp only [bb_1,bb_2,bz]at h
   refine W.ex ?_
   try dsimp only [Sum.elim_inl,Sum.elim_inr]
   unfold RG
   try simp only [jn]
   have:=AY (Ku k_a0)
   refine W.it (fun(v:Int)=>0≤v∧(v≤(a0.Waiting.length:Int)∨v≤0)) (fun v=>((a0.Waiting.length:Int) - v).toNat) (by omega) (by omega) (fun i_t5_23 hv=>?_)
   unfold OS
   refine W.if (fun h=>?_) (fun h=>?_)
   ·try simp only [bb_1,bb_2,bz]at h
    refine W.bd (W.idx (by omega)) fun e27 q_e27=>W.bd (Di) fun r28 _=>W.lt fun b29 bb_5=>W.gb (fun _=>RS (PO (show FY e27 from Bp (Ku k_a0) q_e27.1))) fun r30 _=>W.lt fun b31 bb_7=>W.if (fun h=>?_) (fun h=>?_)
    ·try simp only [bb_1,bb_2,bb_5,bb_7,bz]at h
     refine W.ex ?_
     try dsimp only [Sum.elim_inl,Sum.elim_inr]
     refine W.rt ?_
     first | (intro hz;cases hz;done) | (intro _;omega)
    ·try simp only [bb_1,bb_2,bb_5,bb_7,bz]at h
     have ww_8:Ac (i_t5_23+(1:Int))=i_t5_23+(1:Int):=Af (by omega) (by omega)
     exact W.nx (by(try dsimp only);first | omega | (and_intros<;>first | omega | assumption) | (simp;omega)) (by(try dsimp only);omega)
   ·try simp only [bb_1,bb_2,bz]at h
    refine W.ex ?_
    try dsimp only [Sum.elim_inl,Sum.elim_inr]
    unfold RF
    try simp only [jn]
    have:=AY (Fw k_a0)
    refine W.it (fun(v:Int)=>0≤v∧(v≤(a0.Conts.length:Int)∨v≤0)) (fun v=>((a0.Conts.length:Int) - v).toNat) (by omega) (by omega) (fun i_t7_8 hv=>?_)
    unfold OR
    refine W.if (fun h=>?_) (fun h=>?_)
    ·try simp only [bb_1,bb_2,bz]at h
     refine W.bd (W.idx (by omega)) fun e12 q_e12=>W.bd (Di) fun r13 _=>W.lt fun b14 bb_9=>W.gb (fun _=>CO) fun r15 _=>W.lt fun b16 bb_11=>W.gb (fun _=>sK (LY (show Jj e12 from Bp (Fw k_a0) q_e12.1))) fun r17 _=>W.lt fun b18 bb_13=>W.gb (fun _=>ID (RJ (show Jj e12 from Bp (Fw k_a0) q_e12.1))) fun r19 _=>W.lt fun b20 bb_15=>W.if (fun h=>?_) (fun h=>?_)
     ·try simp only [bb_1,bb_2,bb_9,bb_11,bb_13,bb_15,bz]at h
      refine W.ex ?_
      try dsimp only [Sum.elim_inl,Sum.elim_inr]
      refine W.rt ?_
      first | (intro hz;cases hz;done) | (intro _;omega)
     ·try simp only [bb_1,bb_2,bb_9,bb_11,bb_13,bb_15,bz]at h
      have ww_16:Ac (i_t7_8+(1:Int))=i_t7_8+(1:Int):=Af (by omega) (by omega)
      exact W.nx (by(try dsimp only);first | omega | (and_intros<;>first | omega | assumption) | (simp;omega)) (by(try dsimp only);omega)
    ·try simp only [bb_1,bb_2,bz]at h
     refine W.ex ?_
     try dsimp only [Sum.elim_inl,Sum.elim_inr]
     unfold RE
     refine W.rt ?_
     first | (intro hz;cases hz;done) | (intro _;omega)
theorem sQ {a0:List (A1)} {a1:Ao} (k_a1:Bk a1):W (ei a0 a1) (fun r=>r=true→a1.Objects.length≤2048∧a1.Conts.length≤64):=by
 unfold ei
 try simp only [jn]
 refine W.bd (CO) fun r1 _=>W.gb (fun _=>CO) fun r2 _=>W.lt fun b3 bb_2=>W.gb (fun _=>CO) fun r4 _=>W.lt fun b5 bb_4=>W.gb (fun _=>CO) fun r6 _=>W.lt fun b7 bb_6=>W.lt fun b8 bb_7=>W.if (fun h=>?_) (fun h=>?_)
 ·try simp only [bb_2,bb_4,bb_6,bb_7,bz]at h
  refine W.rt ?_
  first | (intro hz;cases hz;done) | (intro hz;simp only [bb_2,bb_4,bb_6,bb_7,bz]at hz;exact⟨by omega,q_r28 (by simp only [bz];exact hz.1) hz.2⟩)
 ·try simp only [bb_2,bb_4,bb_6,bb_7,bz]at h
  refine W.bd (Zx k_a1) fun r10 _=>W.gb (fun _=>Di) fun r11 _=>W.lt fun b12 bb_9=>W.gb (fun _=>Di) fun r13 _=>W.lt fun b14 bb_11=>W.gb (fun _=>CO) fun r15 _=>W.lt fun b16 bb_13=>W.lt fun b17 bb_14=>W.gb (fun _=>CO) fun r18 _=>W.lt fun b19 bb_16=>W.if (fun h=>?_) (fun h=>?_)
  ·try simp only [bb_2,bb_4,bb_6,bb_7,bb_9,bb_11,bb_13,bb_14,bb_16,bz]at h
   refine W.rt ?_
   first | (intro hz;cases hz;done) | (intro hz;simp only [bb_2,bb_4,bb_6,bb_7,bb_9,bb_11,bb_13,bb_14,bb_16,bz]at hz;exact⟨by omega,q_r28 (by simp only [bz];exact hz.1) hz.2⟩)
  ·try simp only [bb_2,bb_4,bb_6,bb_7,bb_9,bb_11,bb_13,bb_14,bb_16,bz]at h
   have:=AY (Yp k_a1)
   refine W.it (fun(v:Int)=>0≤v∧(v≤(a1.Extra.length:Int)∨v≤0)) (fun v=>((a1.Extra.length:Int) - v).toNat) (by omega) (by omega) (fun i_t5_31 hv=>?_)
   unfold Yi
   refine W.if (fun h=>?_) (fun h=>?_)
   ·try simp only [bb_2,bb_4,bb_6,bb_7,bb_9,bb_11,bb_13,bb_14,bb_16,bz]at h
    refine W.bd (W.idx (by omega)) fun e35 _=>W.bd (Di) fun r36 _=>W.if (fun h=>?_) (fun h=>?_)
    ·try simp only [bb_2,bb_4,bb_6,bb_7,bb_9,bb_11,bb_13,bb_14,bb_16,bz]at h
     refine W.ex ?_
     try dsimp only [Sum.elim_inl,Sum.elim_inr]
     refine W.rt ?_
     first | (intro hz;cases hz;done) | (intro hz;simp only [bb_2,bb_4,bb_6,bb_7,bb_9,bb_11,bb_13,bb_14,bb_16,bz]at hz;exact⟨by omega,q_r28 (by simp only [bz];exact hz.1) hz.2⟩)
    ·try simp only [bb_2,bb_4,bb_6,bb_7,bb_9,bb_11,bb_13,bb_14,bb_16,bz]at h
     have ww_17:Ac (i_t5_31+(1:Int))=i_t5_31+(1:Int):=Af (by omega) (by omega)
     exact W.nx (by(try dsimp only);first | omega | (and_intros<;>first | omega | assumption) | (simp;omega)) (by(try dsimp only);omega)
   ·try simp only [bb_2,bb_4,bb_6,bb_7,bb_9,bb_11,bb_13,bb_14,bb_16,bz]at h
    refine W.ex ?_
    try dsimp only [Sum.elim_inl,Sum.elim_inr]
    unfold Yh
    refine W.gb (fun _=>Di) fun r22 _=>W.lt fun b23 bb_19=>W.lt fun b24 bb_20=>W.lt fun b25 bb_21=>W.if (fun h=>?_) (fun h=>?_)
    ·try simp only [bb_2,bb_4,bb_6,bb_7,bb_9,bb_11,bb_13,bb_14,bb_16,bb_19,bb_20,bb_21,bz]at h
     refine W.rt ?_
     first | (intro hz;cases hz;done) | (intro hz;simp only [bb_2,bb_4,bb_6,bb_7,bb_9,bb_11,bb_13,bb_14,bb_16,bb_19,bb_20,bb_21,bz]at hz;exact⟨by omega,q_r28 (by simp only [bz];exact hz.1) hz.2⟩)
    ·try simp only [bb_2,bb_4,bb_6,bb_7,bb_9,bb_11,bb_13,bb_14,bb_16,bb_19,bb_20,bb_21,bz]at h
     refine W.bd (Zw k_a1) fun r27 _=>W.gb (fun _=>jo k_a1) fun r28 q_r28=>W.lt fun b29 bb_23=>W.rt ?_
     first | (intro hz;cases hz;done) | (intro hz;simp only [bb_2,bb_4,bb_6,bb_7,bb_9,bb_11,bb_13,bb_14,bb_16,bb_19,bb_20,bb_21,bb_23,bz]at hz;exact⟨by omega,q_r28 (by simp only [bz];exact hz.1) hz.2⟩)
theorem Zy {a0:List (A1)} {a1:Ao} (k_a0:B5 176 Cy a0) (k_a1:Bk a1):W (Jg a0 a1) (fun r=>r=true→(∀ y∈a0,y.Abilities.length≤8)∧a1.Objects.length≤2048∧a1.Conts.length≤64):=by
 unfold Jg
 refine W.bd (jm k_a0) (fun r1 q_r1=>?_)
 replace q_r1:r1.2=0→ ∀ y∈a0,y.Abilities.length≤8:=q_r1
 refine W.gb (fun _=>sQ k_a1) fun r2 q_r2=>W.lt fun b3 bb_2=>W.rt ?_
 (intro hz;simp only [bb_2,bz]at hz;exact⟨q_r1 hz.1,q_r2 (by simp only [bz];exact hz.1) hz.2⟩)
end Go.PL
