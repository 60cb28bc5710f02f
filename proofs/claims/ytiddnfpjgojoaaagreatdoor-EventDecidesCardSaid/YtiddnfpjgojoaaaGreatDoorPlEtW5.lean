/- Functions that answer: proofs. -/
import Derived.Test.YtiddnfpjgojoaaaGreatDoorPlEdF16
import Derived.Test.YtiddnfpjgojoaaaGreatDoorPlEdF17
import Derived.Test.YtiddnfpjgojoaaaGreatDoorPlEdF18
import Derived.Test.YtiddnfpjgojoaaaGreatDoorPlEtL
import Derived.Test.YtiddnfpjgojoaaaGreatDoorPlEtW0
import Derived.Test.YtiddnfpjgojoaaaGreatDoorPlEtW1
import Derived.Test.YtiddnfpjgojoaaaGreatDoorPlEtW2
import Derived.Test.YtiddnfpjgojoaaaGreatDoorPlEtW3
import Derived.Test.YtiddnfpjgojoaaaGreatDoorPlEtW4
namespace Go.PL
open Go
set_option maxRecDepth 100000
set_option linter.all false
set_option maxHeartbeats 2000000
theorem sO {a0:AV} {a1:Int} (k_a0:BN a0):W (d9 a0 a1) (fun r=>True):=by
 unfold d9
 try simp only [jn]
 refine W.bd (mz) fun r1 _=>W.if (fun _=>W.rt trivial) (fun h=>?_)
 try simp only [bz]at h
 refine W.bd (Am) fun r46 _=>W.if (fun h=>?_) (fun h=>?_)
 ·try simp only [bz]at h
  refine W.bd (sN (Zq k_a0)) (fun r48 _=>?_)
  unfold SV
  try simp only [jn]
  refine W.gb (fun _=>Am) fun r5 q_r5=>W.lt fun b6 bb_2=>W.lt fun b7 bb_3=>W.lt fun b8 bb_4=>W.gb (fun _=>Am) fun r9 q_r9=>W.gb (fun _=>PP) fun r10 q_r10=>W.lt fun b11 bb_7=>W.lt fun b12 bb_8=>W.bd (Am) fun r43 q_r43=>W.if (fun h=>?_) (fun h=>?_)
  ·try simp only [bb_2,bb_3,bb_4,bb_7,bb_8,bz]at h
   refine W.bd (RM (Ft k_a0)) (fun r45 q_r45=>?_)
   replace q_r45:r45=true→a0.Card.length≤32:=q_r45
   have:=AN (Ft k_a0)
   unfold Iw
   try simp only [jn]
   refine W.bd (Am) fun r40 q_r40=>W.if (fun h=>?_) (fun h=>?_)
   ·try simp only [bb_2,bb_3,bb_4,bb_7,bb_8,bz]at h
    refine W.bd (RQ (Ej k_a0)) (fun r42 q_r42=>?_)
    unfold Dg
    try simp only [jn]
    refine W.bd (Am) fun r37 q_r37=>W.if (fun h=>?_) (fun h=>?_)
    ·try simp only [bb_2,bb_3,bb_4,bb_7,bb_8,bz]at h
     refine W.bd (D9 (BF k_a0)) (fun r39 q_r39=>?_)
     unfold BE
     try simp only [jn]
     refine W.bd (Am) fun r33 q_r33=>W.if (fun h=>?_) (fun h=>?_)
     ·try simp only [bb_2,bb_3,bb_4,bb_7,bb_8,bz]at h
      refine W.gb (fun _=>Bd) fun r35 q_r35=>W.lt (fun b36 bb_10=>?_)
      unfold AR
      try simp only [jn]
      refine W.bd (Am) fun r30 q_r30=>W.if (fun h=>?_) (fun h=>?_)
      ·try simp only [bb_2,bb_3,bb_4,bb_7,bb_8,bb_10,bz]at h
       refine W.bd (AG (As k_a0)) (fun r32 q_r32=>?_)
       unfold An
       refine W.lt fun b23 bb_11=>W.lt fun b24 bb_12=>W.lt fun b25 bb_13=>W.lt fun b26 bb_14=>W.lt fun b27 bb_15=>W.lt fun b28 bb_16=>W.lt fun b29 bb_17=>W.rt trivial
      ·try simp only [bb_2,bb_3,bb_4,bb_7,bb_8,bb_10,bz]at h
       unfold An
       refine W.lt fun b23 bb_18=>W.lt fun b24 bb_19=>W.lt fun b25 bb_20=>W.lt fun b26 bb_21=>W.lt fun b27 bb_22=>W.lt fun b28 bb_23=>W.lt fun b29 bb_24=>W.rt trivial
     ·try simp only [bb_2,bb_3,bb_4,bb_7,bb_8,bz]at h
      unfold AR
      try simp only [jn]
      refine W.bd (Am) fun r30 q_r30=>W.if (fun h=>?_) (fun h=>?_)
      ·try simp only [bb_2,bb_3,bb_4,bb_7,bb_8,bz]at h
       refine W.bd (AG (As k_a0)) (fun r32 q_r32=>?_)
       unfold An
       refine W.lt fun b23 bb_25=>W.lt fun b24 bb_26=>W.lt fun b25 bb_27=>W.lt fun b26 bb_28=>W.lt fun b27 bb_29=>W.lt fun b28 bb_30=>W.lt fun b29 bb_31=>W.rt trivial
      ·try simp only [bb_2,bb_3,bb_4,bb_7,bb_8,bz]at h
       unfold An
       refine W.lt fun b23 bb_32=>W.lt fun b24 bb_33=>W.lt fun b25 bb_34=>W.lt fun b26 bb_35=>W.lt fun b27 bb_36=>W.lt fun b28 bb_37=>W.lt fun b29 bb_38=>W.rt trivial
    ·try simp only [bb_2,bb_3,bb_4,bb_7,bb_8,bz]at h
     unfold BE
     try simp only [jn]
     refine W.bd (Am) fun r33 q_r33=>W.if (fun h=>?_) (fun h=>?_)
     ·try simp only [bb_2,bb_3,bb_4,bb_7,bb_8,bz]at h
      refine W.gb (fun _=>Bd) fun r35 q_r35=>W.lt (fun b36 bb_40=>?_)
      unfold AR
      try simp only [jn]
      refine W.bd (Am) fun r30 q_r30=>W.if (fun h=>?_) (fun h=>?_)
      ·try simp only [bb_2,bb_3,bb_4,bb_7,bb_8,bb_40,bz]at h
       refine W.bd (AG (As k_a0)) (fun r32 q_r32=>?_)
       unfold An
       refine W.lt fun b23 bb_41=>W.lt fun b24 bb_42=>W.lt fun b25 bb_43=>W.lt fun b26 bb_44=>W.lt fun b27 bb_45=>W.lt fun b28 bb_46=>W.lt fun b29 bb_47=>W.rt trivial
      ·try simp only [bb_2,bb_3,bb_4,bb_7,bb_8,bb_40,bz]at h
       unfold An
       refine W.lt fun b23 bb_48=>W.lt fun b24 bb_49=>W.lt fun b25 bb_50=>W.lt fun b26 bb_51=>W.lt fun b27 bb_52=>W.lt fun b28 bb_53=>W.lt fun b29 bb_54=>W.rt trivial
     ·try simp only [bb_2,bb_3,bb_4,bb_7,bb_8,bz]at h
      unfold AR
      try simp only [jn]
      refine W.bd (Am) fun r30 q_r30=>W.if (fun h=>?_) (fun h=>?_)
      ·try simp only [bb_2,bb_3,bb_4,bb_7,bb_8,bz]at h
       refine W.bd (AG (As k_a0)) (fun r32 q_r32=>?_)
       unfold An
       refine W.lt fun b23 bb_55=>W.lt fun b24 bb_56=>W.lt fun b25 bb_57=>W.lt fun b26 bb_58=>W.lt fun b27 bb_59=>W.lt fun b28 bb_60=>W.lt fun b29 bb_61=>W.rt trivial
      ·try simp only [bb_2,bb_3,bb_4,bb_7,bb_8,bz]at h
       unfold An
       refine W.lt fun b23 bb_62=>W.lt fun b24 bb_63=>W.lt fun b25 bb_64=>W.lt fun b26 bb_65=>W.lt fun b27 bb_66=>W.lt fun b28 bb_67=>W.lt fun b29 bb_68=>W.rt trivial
   ·try simp only [bb_2,bb_3,bb_4,bb_7,bb_8,bz]at h
    unfold Dg
    try simp only [jn]
    refine W.bd (Am) fun r37 q_r37=>W.if (fun h=>?_) (fun h=>?_)
    ·try simp only [bb_2,bb_3,bb_4,bb_7,bb_8,bz]at h
     refine W.bd (D9 (BF k_a0)) (fun r39 q_r39=>?_)
     unfold BE
     try simp only [jn]
     refine W.bd (Am) fun r33 q_r33=>W.if (fun h=>?_) (fun h=>?_)
     ·try simp only [bb_2,bb_3,bb_4,bb_7,bb_8,bz]at h
      refine W.gb (fun _=>Bd) fun r35 q_r35=>W.lt (fun b36 bb_70=>?_)
      unfold AR
      try simp only [jn]
      refine W.bd (Am) fun r30 q_r30=>W.if (fun h=>?_) (fun h=>?_)
      ·try simp only [bb_2,bb_3,bb_4,bb_7,bb_8,bb_70,bz]at h
       refine W.bd (AG (As k_a0)) (fun r32 q_r32=>?_)
       unfold An
       refine W.lt fun b23 bb_71=>W.lt fun b24 bb_72=>W.lt fun b25 bb_73=>W.lt fun b26 bb_74=>W.lt fun b27 bb_75=>W.lt fun b28 bb_76=>W.lt fun b29 bb_77=>W.rt trivial
      ·try simp only [bb_2,bb_3,bb_4,bb_7,bb_8,bb_70,bz]at h
       unfold An
       refine W.lt fun b23 bb_78=>W.lt fun b24 bb_79=>W.lt fun b25 bb_80=>W.lt fun b26 bb_81=>W.lt fun b27 bb_82=>W.lt fun b28 bb_83=>W.lt fun b29 bb_84=>W.rt trivial
     ·try simp only [bb_2,bb_3,bb_4,bb_7,bb_8,bz]at h
      unfold AR
      try simp only [jn]
      refine W.bd (Am) fun r30 q_r30=>W.if (fun h=>?_) (fun h=>?_)
      ·try simp only [bb_2,bb_3,bb_4,bb_7,bb_8,bz]at h
       refine W.bd (AG (As k_a0)) (fun r32 q_r32=>?_)
       unfold An
       refine W.lt fun b23 bb_85=>W.lt fun b24 bb_86=>W.lt fun b25 bb_87=>W.lt fun b26 bb_88=>W.lt fun b27 bb_89=>W.lt fun b28 bb_90=>W.lt fun b29 bb_91=>W.rt trivial
      ·try simp only [bb_2,bb_3,bb_4,bb_7,bb_8,bz]at h
       unfold An
       refine W.lt fun b23 bb_92=>W.lt fun b24 bb_93=>W.lt fun b25 bb_94=>W.lt fun b26 bb_95=>W.lt fun b27 bb_96=>W.lt fun b28 bb_97=>W.lt fun b29 bb_98=>W.rt trivial
    ·try simp only [bb_2,bb_3,bb_4,bb_7,bb_8,bz]at h
     unfold BE
     try simp only [jn]
     refine W.bd (Am) fun r33 q_r33=>W.if (fun h=>?_) (fun h=>?_)
     ·try simp only [bb_2,bb_3,bb_4,bb_7,bb_8,bz]at h
      refine W.gb (fun _=>Bd) fun r35 q_r35=>W.lt (fun b36 bb_100=>?_)
      unfold AR
      try simp only [jn]
      refine W.bd (Am) fun r30 q_r30=>W.if (fun h=>?_) (fun h=>?_)
      ·try simp only [bb_2,bb_3,bb_4,bb_7,bb_8,bb_100,bz]at h
       refine W.bd (AG (As k_a0)) (fun r32 q_r32=>?_)
       unfold An
       refine W.lt fun b23 bb_101=>W.lt fun b24 bb_102=>W.lt fun b25 bb_103=>W.lt fun b26 bb_104=>W.lt fun b27 bb_105=>W.lt fun b28 bb_106=>W.lt fun b29 bb_107=>W.rt trivial
      ·try simp only [bb_2,bb_3,bb_4,bb_7,bb_8,bb_100,bz]at h
       unfold An
       refine W.lt fun b23 bb_108=>W.lt fun b24 bb_109=>W.lt fun b25 bb_110=>W.lt fun b26 bb_111=>W.lt fun b27 bb_112=>W.lt fun b28 bb_113=>W.lt fun b29 bb_114=>W.rt trivial
     ·try simp only [bb_2,bb_3,bb_4,bb_7,bb_8,bz]at h
      unfold AR
      try simp only [jn]
      refine W.bd (Am) fun r30 q_r30=>W.if (fun h=>?_) (fun h=>?_)
      ·try simp only [bb_2,bb_3,bb_4,bb_7,bb_8,bz]at h
       refine W.bd (AG (As k_a0)) (fun r32 q_r32=>?_)
       unfold An
       refine W.lt fun b23 bb_115=>W.lt fun b24 bb_116=>W.lt fun b25 bb_117=>W.lt fun b26 bb_118=>W.lt fun b27 bb_119=>W.lt fun b28 bb_120=>W.lt fun b29 bb_121=>W.rt trivial
      ·try simp only [bb_2,bb_3,bb_4,bb_7,bb_8,bz]at h
       unfold An
       refine W.lt fun b23 bb_122=>W.lt fun b24 bb_123=>W.lt fun b25 bb_124=>W.lt fun b26 bb_125=>W.lt fun b27 bb_126=>W.lt fun b28 bb_127=>W.lt fun b29 bb_128=>W.rt trivial
  ·try simp only [bb_2,bb_3,bb_4,bb_7,bb_8,bz]at h
   unfold Iw
   try simp only [jn]
   refine W.bd (Am) fun r40 q_r40=>W.if (fun h=>?_) (fun h=>?_)
   ·try simp only [bb_2,bb_3,bb_4,bb_7,bb_8,bz]at h
    refine W.bd (RQ (Ej k_a0)) (fun r42 q_r42=>?_)
    unfold Dg
    try simp only [jn]
    refine W.bd (Am) fun r37 q_r37=>W.if (fun h=>?_) (fun h=>?_)
    ·try simp only [bb_2,bb_3,bb_4,bb_7,bb_8,bz]at h
     refine W.bd (D9 (BF k_a0)) (fun r39 q_r39=>?_)
     unfold BE
     try simp only [jn]
     refine W.bd (Am) fun r33 q_r33=>W.if (fun h=>?_) (fun h=>?_)
     ·try simp only [bb_2,bb_3,bb_4,bb_7,bb_8,bz]at h
      refine W.gb (fun _=>Bd) fun r35 q_r35=>W.lt (fun b36 bb_130=>?_)
      unfold AR
      try simp only [jn]
      refine W.bd (Am) fun r30 q_r30=>W.if (fun h=>?_) (fun h=>?_)
      ·try simp only [bb_2,bb_3,bb_4,bb_7,bb_8,bb_130,bz]at h
       refine W.bd (AG (As k_a0)) (fun r32 q_r32=>?_)
       unfold An
       refine W.lt fun b23 bb_131=>W.lt fun b24 bb_132=>W.lt fun b25 bb_133=>W.lt fun b26 bb_134=>W.lt fun b27 bb_135=>W.lt fun b28 bb_136=>W.lt fun b29 bb_137=>W.rt trivial
      ·try simp only [bb_2,bb_3,bb_4,bb_7,bb_8,bb_130,bz]at h
       unfold An
       refine W.lt fun b23 bb_138=>W.lt fun b24 bb_139=>W.lt fun b25 bb_140=>W.lt fun b26 bb_141=>W.lt fun b27 bb_142=>W.lt fun b28 bb_143=>W.lt fun b29 bb_144=>W.rt trivial
     ·try simp only [bb_2,bb_3,bb_4,bb_7,bb_8,bz]at h
      unfold AR
      try simp only [jn]
      refine W.bd (Am) fun r30 q_r30=>W.if (fun h=>?_) (fun h=>?_)
      ·try simp only [bb_2,bb_3,bb_4,bb_7,bb_8,bz]at h
       refine W.bd (AG (As k_a0)) (fun r32 q_r32=>?_)
       unfold An
       refine W.lt fun b23 bb_145=>W.lt fun b24 bb_146=>W.lt fun b25 bb_147=>W.lt fun b26 bb_148=>W.lt fun b27 bb_149=>W.lt fun b28 bb_150=>W.lt fun b29 bb_151=>W.rt trivial
      ·try simp only [bb_2,bb_3,bb_4,bb_7,bb_8,bz]at h
       unfold An
       refine W.lt fun b23 bb_152=>W.lt fun b24 bb_153=>W.lt fun b25 bb_154=>W.lt fun b26 bb_155=>W.lt fun b27 bb_156=>W.lt fun b28 bb_157=>W.lt fun b29 bb_158=>W.rt trivial
    ·try simp only [bb_2,bb_3,bb_4,bb_7,bb_8,bz]at h
     unfold BE
     try simp only [jn]
     refine W.bd (Am) fun r33 q_r33=>W.if (fun h=>?_) (fun h=>?_)
     ·try simp only [bb_2,bb_3,bb_4,bb_7,bb_8,bz]at h
      refine W.gb (fun _=>Bd) fun r35 q_r35=>W.lt (fun b36 bb_160=>?_)
      unfold AR
      try simp only [jn]
      refine W.bd (Am) fun r30 q_r30=>W.if (fun h=>?_) (fun h=>?_)
      ·try simp only [bb_2,bb_3,bb_4,bb_7,bb_8,bb_160,bz]at h
       refine W.bd (AG (As k_a0)) (fun r32 q_r32=>?_)
       unfold An
       refine W.lt fun b23 bb_161=>W.lt fun b24 bb_162=>W.lt fun b25 bb_163=>W.lt fun b26 bb_164=>W.lt fun b27 bb_165=>W.lt fun b28 bb_166=>W.lt fun b29 bb_167=>W.rt trivial
      ·try simp only [bb_2,bb_3,bb_4,bb_7,bb_8,bb_160,bz]at h
       unfold An
       refine W.lt fun b23 bb_168=>W.lt fun b24 bb_169=>W.lt fun b25 bb_170=>W.lt fun b26 bb_171=>W.lt fun b27 bb_172=>W.lt fun b28 bb_173=>W.lt fun b29 bb_174=>W.rt trivial
     ·try simp only [bb_2,bb_3,bb_4,bb_7,bb_8,bz]at h
      unfold AR
      try simp only [jn]
      refine W.bd (Am) fun r30 q_r30=>W.if (fun h=>?_) (fun h=>?_)
      ·try simp only [bb_2,bb_3,bb_4,bb_7,bb_8,bz]at h
       refine W.bd (AG (As k_a0)) (fun r32 q_r32=>?_)
       unfold An
       refine W.lt fun b23 bb_175=>W.lt fun b24 bb_176=>W.lt fun b25 bb_177=>W.lt fun b26 bb_178=>W.lt fun b27 bb_179=>W.lt fun b28 bb_180=>W.lt fun b29 bb_181=>W.rt trivial
      ·try simp only [bb_2,bb_3,bb_4,bb_7,bb_8,bz]at h
       unfold An
       refine W.lt fun b23 bb_182=>W.lt fun b24 bb_183=>W.lt fun b25 bb_184=>W.lt fun b26 bb_185=>W.lt fun b27 bb_186=>W.lt fun b28 bb_187=>W.lt fun b29 bb_188=>W.rt trivial
   ·try simp only [bb_2,bb_3,bb_4,bb_7,bb_8,bz]at h
    unfold Dg
    try simp only [jn]
    refine W.bd (Am) fun r37 q_r37=>W.if (fun h=>?_) (fun h=>?_)
    ·try simp only [bb_2,bb_3,bb_4,bb_7,bb_8,bz]at h
     refine W.bd (D9 (BF k_a0)) (fun r39 q_r39=>?_)
     unfold BE
     try simp only [jn]
     refine W.bd (Am) fun r33 q_r33=>W.if (fun h=>?_) (fun h=>?_)
     ·try simp only [bb_2,bb_3,bb_4,bb_7,bb_8,bz]at h
      refine W.gb (fun _=>Bd) fun r35 q_r35=>W.lt (fun b36 bb_190=>?_)
      unfold AR
      try simp only [jn]
      refine W.bd (Am) fun r30 q_r30=>W.if (fun h=>?_) (fun h=>?_)
      ·try simp only [bb_2,bb_3,bb_4,bb_7,bb_8,bb_190,bz]at h
       refine W.bd (AG (As k_a0)) (fun r32 q_r32=>?_)
       unfold An
       refine W.lt fun b23 bb_191=>W.lt fun b24 bb_192=>W.lt fun b25 bb_193=>W.lt fun b26 bb_194=>W.lt fun b27 bb_195=>W.lt fun b28 bb_196=>W.lt fun b29 bb_197=>W.rt trivial
      ·try simp only [bb_2,bb_3,bb_4,bb_7,bb_8,bb_190,bz]at h
       unfold An
       refine W.lt fun b23 bb_198=>W.lt fun b24 bb_199=>W.lt fun b25 bb_200=>W.lt fun b26 bb_201=>W.lt fun b27 bb_202=>W.lt fun b28 bb_203=>W.lt fun b29 bb_204=>W.rt trivial
     ·try simp only [bb_2,bb_3,bb_4,bb_7,bb_8,bz]at h
      unfold AR
      try simp only [jn]
      refine W.bd (Am) fun r30 q_r30=>W.if (fun h=>?_) (fun h=>?_)
      ·try simp only [bb_2,bb_3,bb_4,bb_7,bb_8,bz]at h
       refine W.bd (AG (As k_a0)) (fun r32 q_r32=>?_)
       unfold An
       refine W.lt fun b23 bb_205=>W.lt fun b24 bb_206=>W.lt fun b25 bb_207=>W.lt fun b26 bb_208=>W.lt fun b27 bb_209=>W.lt fun b28 bb_210=>W.lt fun b29 bb_211=>W.rt trivial
      ·try simp only [bb_2,bb_3,bb_4,bb_7,bb_8,bz]at h
       unfold An
       refine W.lt fun b23 bb_212=>W.lt fun b24 bb_213=>W.lt fun b25 bb_214=>W.lt fun b26 bb_215=>W.lt fun b27 bb_216=>W.lt fun b28 bb_217=>W.lt fun b29 bb_218=>W.rt trivial
    ·try simp only [bb_2,bb_3,bb_4,bb_7,bb_8,bz]at h
     unfold BE
     try simp only [jn]
     refine W.bd (Am) fun r33 q_r33=>W.if (fun h=>?_) (fun h=>?_)
     ·try simp only [bb_2,bb_3,bb_4,bb_7,bb_8,bz]at h
      refine W.gb (fun _=>Bd) fun r35 q_r35=>W.lt (fun b36 bb_220=>?_)
      unfold AR
      try simp only [jn]
      refine W.bd (Am) fun r30 q_r30=>W.if (fun h=>?_) (fun h=>?_)
      ·try simp only [bb_2,bb_3,bb_4,bb_7,bb_8,bb_220,bz]at h
       refine W.bd (AG (As k_a0)) (fun r32 q_r32=>?_)
       unfold An
       refine W.lt fun b23 bb_221=>W.lt fun b24 bb_222=>W.lt fun b25 bb_223=>W.lt fun b26 bb_224=>W.lt fun b27 bb_225=>W.lt fun b28 bb_226=>W.lt fun b29 bb_227=>W.rt trivial
      ·try simp only [bb_2,bb_3,bb_4,bb_7,bb_8,bb_220,bz]at h
       unfold An
       refine W.lt fun b23 bb_228=>W.lt fun b24 bb_229=>W.lt fun b25 bb_230=>W.lt fun b26 bb_231=>W.lt fun b27 bb_232=>W.lt fun b28 bb_233=>W.lt fun b29 bb_234=>W.rt trivial
     ·try simp only [bb_2,bb_3,bb_4,bb_7,bb_8,bz]at h
      unfold AR
      try simp only [jn]
      refine W.bd (Am) fun r30 q_r30=>W.if (fun h=>?_) (fun h=>?_)
      ·try simp only [bb_2,bb_3,bb_4,bb_7,bb_8,bz]at h
       refine W.bd (AG (As k_a0)) (fun r32 q_r32=>?_)
       unfold An
       refine W.lt fun b23 bb_235=>W.lt fun b24 bb_236=>W.lt fun b25 bb_237=>W.lt fun b26 bb_238=>W.lt fun b27 bb_239=>W.lt fun b28 bb_240=>W.lt fun b29 bb_241=>W.rt trivial
      ·try simp only [bb_2,bb_3,bb_4,bb_7,bb_8,bz]at h
       unfold An
       refine W.lt fun b23 bb_242=>W.lt fun b24 bb_243=>W.lt fun b25 bb_244=>W.lt fun b26 bb_245=>W.lt fun b27 bb_246=>W.lt fun b28 bb_247=>W.lt fun b29 bb_248=>W.rt trivial
 ·try simp only [bz]at h
  unfold SV
  try simp only [jn]
  refine W.gb (fun _=>Am) fun r5 q_r5=>W.lt fun b6 bb_250=>W.lt fun b7 bb_251=>W.lt fun b8 bb_252=>W.gb (fun _=>Am) fun r9 q_r9=>W.gb (fun _=>PP) fun r10 q_r10=>W.lt fun b11 bb_255=>W.lt fun b12 bb_256=>W.bd (Am) fun r43 q_r43=>W.if (fun h=>?_) (fun h=>?_)
  ·try simp only [bb_250,bb_251,bb_252,bb_255,bb_256,bz]at h
   refine W.bd (RM (Ft k_a0)) (fun r45 q_r45=>?_)
   replace q_r45:r45=true→a0.Card.length≤32:=q_r45
   have:=AN (Ft k_a0)
   unfold Iw
   try simp only [jn]
   refine W.bd (Am) fun r40 q_r40=>W.if (fun h=>?_) (fun h=>?_)
   ·try simp only [bb_250,bb_251,bb_252,bb_255,bb_256,bz]at h
    refine W.bd (RQ (Ej k_a0)) (fun r42 q_r42=>?_)
    unfold Dg
    try simp only [jn]
    refine W.bd (Am) fun r37 q_r37=>W.if (fun h=>?_) (fun h=>?_)
    ·try simp only [bb_250,bb_251,bb_252,bb_255,bb_256,bz]at h
     refine W.bd (D9 (BF k_a0)) (fun r39 q_r39=>?_)
     unfold BE
     try simp only [jn]
     refine W.bd (Am) fun r33 q_r33=>W.if (fun h=>?_) (fun h=>?_)
     ·try simp only [bb_250,bb_251,bb_252,bb_255,bb_256,bz]at h
      refine W.gb (fun _=>Bd) fun r35 q_r35=>W.lt (fun b36 bb_258=>?_)
      unfold AR
      try simp only [jn]
      refine W.bd (Am) fun r30 q_r30=>W.if (fun h=>?_) (fun h=>?_)
      ·try simp only [bb_250,bb_251,bb_252,bb_255,bb_256,bb_258,bz]at h
       refine W.bd (AG (As k_a0)) (fun r32 q_r32=>?_)
       unfold An
       refine W.lt fun b23 bb_259=>W.lt fun b24 bb_260=>W.lt fun b25 bb_261=>W.lt fun b26 bb_262=>W.lt fun b27 bb_263=>W.lt fun b28 bb_264=>W.lt fun b29 bb_265=>W.rt trivial
      ·try simp only [bb_250,bb_251,bb_252,bb_255,bb_256,bb_258,bz]at h
       unfold An
       refine W.lt fun b23 bb_266=>W.lt fun b24 bb_267=>W.lt fun b25 bb_268=>W.lt fun b26 bb_269=>W.lt fun b27 bb_270=>W.lt fun b28 bb_271=>W.lt fun b29 bb_272=>W.rt trivial
     ·try simp only [bb_250,bb_251,bb_252,bb_255,bb_256,bz]at h
      unfold AR
      try simp only [jn]
      refine W.bd (Am) fun r30 q_r30=>W.if (fun h=>?_) (fun h=>?_)
      ·try simp only [bb_250,bb_251,bb_252,bb_255,bb_256,bz]at h
       refine W.bd (AG (As k_a0)) (fun r32 q_r32=>?_)
       unfold An
       refine W.lt fun b23 bb_273=>W.lt fun b24 bb_274=>W.lt fun b25 bb_275=>W.lt fun b26 bb_276=>W.lt fun b27 bb_277=>W.lt fun b28 bb_278=>W.lt fun b29 bb_279=>W.rt trivial
      ·try simp only [bb_250,bb_251,bb_252,bb_255,bb_256,bz]at h
       unfold An
       refine W.lt fun b23 bb_280=>W.lt fun b24 bb_281=>W.lt fun b25 bb_282=>W.lt fun b26 bb_283=>W.lt fun b27 bb_284=>W.lt fun b28 bb_285=>W.lt fun b29 bb_286=>W.rt trivial
    ·try simp only [bb_250,bb_251,bb_252,bb_255,bb_256,bz]at h
     unfold BE
     try simp only [jn]
     refine W.bd (Am) fun r33 q_r33=>W.if (fun h=>?_) (fun h=>?_)
     ·try simp only [bb_250,bb_251,bb_252,bb_255,bb_256,bz]at h
      refine W.gb (fun _=>Bd) fun r35 q_r35=>W.lt (fun b36 bb_288=>?_)
      unfold AR
      try simp only [jn]
      refine W.bd (Am) fun r30 q_r30=>W.if (fun h=>?_) (fun h=>?_)
      ·try simp only [bb_250,bb_251,bb_252,bb_255,bb_256,bb_288,bz]at h
       refine W.bd (AG (As k_a0)) (fun r32 q_r32=>?_)
       unfold An
       refine W.lt fun b23 bb_289=>W.lt fun b24 bb_290=>W.lt fun b25 bb_291=>W.lt fun b26 bb_292=>W.lt fun b27 bb_293=>W.lt fun b28 bb_294=>W.lt fun b29 bb_295=>W.rt trivial
      ·try simp only [bb_250,bb_251,bb_252,bb_255,bb_256,bb_288,bz]at h
       unfold An
       refine W.lt fun b23 bb_296=>W.lt fun b24 bb_297=>W.lt fun b25 bb_298=>W.lt fun b26 bb_299=>W.lt fun b27 bb_300=>W.lt fun b28 bb_301=>W.lt fun b29 bb_302=>W.rt trivial
     ·try simp only [bb_250,bb_251,bb_252,bb_255,bb_256,bz]at h
      unfold AR
      try simp only [jn]
      refine W.bd (Am) fun r30 q_r30=>W.if (fun h=>?_) (fun h=>?_)
      ·try simp only [bb_250,bb_251,bb_252,bb_255,bb_256,bz]at h
       refine W.bd (AG (As k_a0)) (fun r32 q_r32=>?_)
       unfold An
       refine W.lt fun b23 bb_303=>W.lt fun b24 bb_304=>W.lt fun b25 bb_305=>W.lt fun b26 bb_306=>W.lt fun b27 bb_307=>W.lt fun b28 bb_308=>W.lt fun b29 bb_309=>W.rt trivial
      ·try simp only [bb_250,bb_251,bb_252,bb_255,bb_256,bz]at h
       unfold An
       refine W.lt fun b23 bb_310=>W.lt fun b24 bb_311=>W.lt fun b25 bb_312=>W.lt fun b26 bb_313=>W.lt fun b27 bb_314=>W.lt fun b28 bb_315=>W.lt fun b29 bb_316=>W.rt trivial
   ·try simp only [bb_250,bb_251,bb_252,bb_255,bb_256,bz]at h
    unfold Dg
    try simp only [jn]
    refine W.bd (Am) fun r37 q_r37=>W.if (fun h=>?_) (fun h=>?_)
    ·try simp only [bb_250,bb_251,bb_252,bb_255,bb_256,bz]at h
     refine W.bd (D9 (BF k_a0)) (fun r39 q_r39=>?_)
     unfold BE
     try simp only [jn]
     refine W.bd (Am) fun r33 q_r33=>W.if (fun h=>?_) (fun h=>?_)
     ·try simp only [bb_250,bb_251,bb_252,bb_255,bb_256,bz]at h
      refine W.gb (fun _=>Bd) fun r35 q_r35=>W.lt (fun b36 bb_318=>?_)
      unfold AR
      try simp only [jn]
      refine W.bd (Am) fun r30 q_r30=>W.if (fun h=>?_) (fun h=>?_)
      ·try simp only [bb_250,bb_251,bb_252,bb_255,bb_256,bb_318,bz]at h
       refine W.bd (AG (As k_a0)) (fun r32 q_r32=>?_)
       unfold An
       refine W.lt fun b23 bb_319=>W.lt fun b24 bb_320=>W.lt fun b25 bb_321=>W.lt fun b26 bb_322=>W.lt fun b27 bb_323=>W.lt fun b28 bb_324=>W.lt fun b29 bb_325=>W.rt trivial
      ·try simp only [bb_250,bb_251,bb_252,bb_255,bb_256,bb_318,bz]at h
       unfold An
       refine W.lt fun b23 bb_326=>W.lt fun b24 bb_327=>W.lt fun b25 bb_328=>W.lt fun b26 bb_329=>W.lt fun b27 bb_330=>W.lt fun b28 bb_331=>W.lt fun b29 bb_332=>W.rt trivial
     ·try simp only [bb_250,bb_251,bb_252,bb_255,bb_256,bz]at h
      unfold AR
      try simp only [jn]
      refine W.bd (Am) fun r30 q_r30=>W.if (fun h=>?_) (fun h=>?_)
      ·try simp only [bb_250,bb_251,bb_252,bb_255,bb_256,bz]at h
       refine W.bd (AG (As k_a0)) (fun r32 q_r32=>?_)
       unfold An
       refine W.lt fun b23 bb_333=>W.lt fun b24 bb_334=>W.lt fun b25 bb_335=>W.lt fun b26 bb_336=>W.lt fun b27 bb_337=>W.lt fun b28 bb_338=>W.lt fun b29 bb_339=>W.rt trivial
      ·try simp only [bb_250,bb_251,bb_252,bb_255,bb_256,bz]at h
       unfold An
       refine W.lt fun b23 bb_340=>W.lt fun b24 bb_341=>W.lt fun b25 bb_342=>W.lt fun b26 bb_343=>W.lt fun b27 bb_344=>W.lt fun b28 bb_345=>W.lt fun b29 bb_346=>W.rt trivial
    ·try simp only [bb_250,bb_251,bb_252,bb_255,bb_256,bz]at h
     unfold BE
     try simp only [jn]
     refine W.bd (Am) fun r33 q_r33=>W.if (fun h=>?_) (fun h=>?_)
     ·try simp only [bb_250,bb_251,bb_252,bb_255,bb_256,bz]at h
      refine W.gb (fun _=>Bd) fun r35 q_r35=>W.lt (fun b36 bb_348=>?_)
      unfold AR
      try simp only [jn]
      refine W.bd (Am) fun r30 q_r30=>W.if (fun h=>?_) (fun h=>?_)
      ·try simp only [bb_250,bb_251,bb_252,bb_255,bb_256,bb_348,bz]at h
       refine W.bd (AG (As k_a0)) (fun r32 q_r32=>?_)
       unfold An
       refine W.lt fun b23 bb_349=>W.lt fun b24 bb_350=>W.lt fun b25 bb_351=>W.lt fun b26 bb_352=>W.lt fun b27 bb_353=>W.lt fun b28 bb_354=>W.lt fun b29 bb_355=>W.rt trivial
      ·try simp only [bb_250,bb_251,bb_252,bb_255,bb_256,bb_348,bz]at h
       unfold An
       refine W.lt fun b23 bb_356=>W.lt fun b24 bb_357=>W.lt fun b25 bb_358=>W.lt fun b26 bb_359=>W.lt fun b27 bb_360=>W.lt fun b28 bb_361=>W.lt fun b29 bb_362=>W.rt trivial
     ·try simp only [bb_250,bb_251,bb_252,bb_255,bb_256,bz]at h
      unfold AR
      try simp only [jn]
      refine W.bd (Am) fun r30 q_r30=>W.if (fun h=>?_) (fun h=>?_)
      ·try simp only [bb_250,bb_251,bb_252,bb_255,bb_256,bz]at h
       refine W.bd (AG (As k_a0)) (fun r32 q_r32=>?_)
       unfold An
       refine W.lt fun b23 bb_363=>W.lt fun b24 bb_364=>W.lt fun b25 bb_365=>W.lt fun b26 bb_366=>W.lt fun b27 bb_367=>W.lt fun b28 bb_368=>W.lt fun b29 bb_369=>W.rt trivial
      ·try simp only [bb_250,bb_251,bb_252,bb_255,bb_256,bz]at h
       unfold An
       refine W.lt fun b23 bb_370=>W.lt fun b24 bb_371=>W.lt fun b25 bb_372=>W.lt fun b26 bb_373=>W.lt fun b27 bb_374=>W.lt fun b28 bb_375=>W.lt fun b29 bb_376=>W.rt trivial
  ·try simp only [bb_250,bb_251,bb_252,bb_255,bb_256,bz]at h
   unfold Iw
   try simp only [jn]
   refine W.bd (Am) fun r40 q_r40=>W.if (fun h=>?_) (fun h=>?_)
   ·try simp only [bb_250,bb_251,bb_252,bb_255,bb_256,bz]at h
    refine W.bd (RQ (Ej k_a0)) (fun r42 q_r42=>?_)
    unfold Dg
    try simp only [jn]
    refine W.bd (Am) fun r37 q_r37=>W.if (fun h=>?_) (fun h=>?_)
    ·try simp only [bb_250,bb_251,bb_252,bb_255,bb_256,bz]at h
     refine W.bd (D9 (BF k_a0)) (fun r39 q_r39=>?_)
     unfold BE
     try simp only [jn]
     refine W.bd (Am) fun r33 q_r33=>W.if (fun h=>?_) (fun h=>?_)
     ·try simp only [bb_250,bb_251,bb_252,bb_255,bb_256,bz]at h
      refine W.gb (fun _=>Bd) fun r35 q_r35=>W.lt (fun b36 bb_378=>?_)
      unfold AR
      try simp only [jn]
      refine W.bd (Am) fun r30 q_r30=>W.if (fun h=>?_) (fun h=>?_)
      ·try simp only [bb_250,bb_251,bb_252,bb_255,bb_256,bb_378,bz]at h
       refine W.bd (AG (As k_a0)) (fun r32 q_r32=>?_)
       unfold An
       refine W.lt fun b23 bb_379=>W.lt fun b24 bb_380=>W.lt fun b25 bb_381=>W.lt fun b26 bb_382=>W.lt fun b27 bb_383=>W.lt fun b28 bb_384=>W.lt fun b29 bb_385=>W.rt trivial
      ·try simp only [bb_250,bb_251,bb_252,bb_255,bb_256,bb_378,bz]at h
       unfold An
       refine W.lt fun b23 bb_386=>W.lt fun b24 bb_387=>W.lt fun b25 bb_388=>W.lt fun b26 bb_389=>W.lt fun b27 bb_390=>W.lt fun b28 bb_391=>W.lt fun b29 bb_392=>W.rt trivial
     ·try simp only [bb_250,bb_251,bb_252,bb_255,bb_256,bz]at h
      unfold AR
      try simp only [jn]
      refine W.bd (Am) fun r30 q_r30=>W.if (fun h=>?_) (fun h=>?_)
      ·try simp only [bb_250,bb_251,bb_252,bb_255,bb_256,bz]at h
       refine W.bd (AG (As k_a0)) (fun r32 q_r32=>?_)
       unfold An
       refine W.lt fun b23 bb_393=>W.lt fun b24 bb_394=>W.lt fun b25 bb_395=>W.lt fun b26 bb_396=>W.lt fun b27 bb_397=>W.lt fun b28 bb_398=>W.lt fun b29 bb_399=>W.rt trivial
      ·try simp only [bb_250,bb_251,bb_252,bb_255,bb_256,bz]at h
       unfold An
       refine W.lt fun b23 bb_400=>W.lt fun b24 bb_401=>W.lt fun b25 bb_402=>W.lt fun b26 bb_403=>W.lt fun b27 bb_404=>W.lt fun b28 bb_405=>W.lt fun b29 bb_406=>W.rt trivial
    ·try simp only [bb_250,bb_251,bb_252,bb_255,bb_256,bz]at h
     unfold BE
     try simp only [jn]
     refine W.bd (Am) fun r33 q_r33=>W.if (fun h=>?_) (fun h=>?_)
     ·try simp only [bb_250,bb_251,bb_252,bb_255,bb_256,bz]at h
      refine W.gb (fun _=>Bd) fun r35 q_r35=>W.lt (fun b36 bb_408=>?_)
      unfold AR
      try simp only [jn]
      refine W.bd (Am) fun r30 q_r30=>W.if (fun h=>?_) (fun h=>?_)
      ·try simp only [bb_250,bb_251,bb_252,bb_255,bb_256,bb_408,bz]at h
       refine W.bd (AG (As k_a0)) (fun r32 q_r32=>?_)
       unfold An
       refine W.lt fun b23 bb_409=>W.lt fun b24 bb_410=>W.lt fun b25 bb_411=>W.lt fun b26 bb_412=>W.lt fun b27 bb_413=>W.lt fun b28 bb_414=>W.lt fun b29 bb_415=>W.rt trivial
      ·try simp only [bb_250,bb_251,bb_252,bb_255,bb_256,bb_408,bz]at h
       unfold An
       refine W.lt fun b23 bb_416=>W.lt fun b24 bb_417=>W.lt fun b25 bb_418=>W.lt fun b26 bb_419=>W.lt fun b27 bb_420=>W.lt fun b28 bb_421=>W.lt fun b29 bb_422=>W.rt trivial
     ·try simp only [bb_250,bb_251,bb_252,bb_255,bb_256,bz]at h
      unfold AR
      try simp only [jn]
      refine W.bd (Am) fun r30 q_r30=>W.if (fun h=>?_) (fun h=>?_)
      ·try simp only [bb_250,bb_251,bb_252,bb_255,bb_256,bz]at h
       refine W.bd (AG (As k_a0)) (fun r32 q_r32=>?_)
       unfold An
       refine W.lt fun b23 bb_423=>W.lt fun b24 bb_424=>W.lt fun b25 bb_425=>W.lt fun b26 bb_426=>W.lt fun b27 bb_427=>W.lt fun b28 bb_428=>W.lt fun b29 bb_429=>W.rt trivial
      ·try simp only [bb_250,bb_251,bb_252,bb_255,bb_256,bz]at h
       unfold An
       refine W.lt fun b23 bb_430=>W.lt fun b24 bb_431=>W.lt fun b25 bb_432=>W.lt fun b26 bb_433=>W.lt fun b27 bb_434=>W.lt fun b28 bb_435=>W.lt fun b29 bb_436=>W.rt trivial
   ·try simp only [bb_250,bb_251,bb_252,bb_255,bb_256,bz]at h
    unfold Dg
    try simp only [jn]
    refine W.bd (Am) fun r37 q_r37=>W.if (fun h=>?_) (fun h=>?_)
    ·try simp only [bb_250,bb_251,bb_252,bb_255,bb_256,bz]at h
     refine W.bd (D9 (BF k_a0)) (fun r39 q_r39=>?_)
     unfold BE
     try simp only [jn]
     refine W.bd (Am) fun r33 q_r33=>W.if (fun h=>?_) (fun h=>?_)
     ·try simp only [bb_250,bb_251,bb_252,bb_255,bb_256,bz]at h
      refine W.gb (fun _=>Bd) fun r35 q_r35=>W.lt (fun b36 bb_438=>?_)
      unfold AR
      try simp only [jn]
      refine W.bd (Am) fun r30 q_r30=>W.if (fun h=>?_) (fun h=>?_)
      ·try simp only [bb_250,bb_251,bb_252,bb_255,bb_256,bb_438,bz]at h
       refine W.bd (AG (As k_a0)) (fun r32 q_r32=>?_)
       unfold An
       refine W.lt fun b23 bb_439=>W.lt fun b24 bb_440=>W.lt fun b25 bb_441=>W.lt fun b26 bb_442=>W.lt fun b27 bb_443=>W.lt fun b28 bb_444=>W.lt fun b29 bb_445=>W.rt trivial
      ·try simp only [bb_250,bb_251,bb_252,bb_255,bb_256,bb_438,bz]at h
       unfold An
       refine W.lt fun b23 bb_446=>W.lt fun b24 bb_447=>W.lt fun b25 bb_448=>W.lt fun b26 bb_449=>W.lt fun b27 bb_450=>W.lt fun b28 bb_451=>W.lt fun b29 bb_452=>W.rt trivial
     ·try simp only [bb_250,bb_251,bb_252,bb_255,bb_256,bz]at h
      unfold AR
      try simp only [jn]
      refine W.bd (Am) fun r30 q_r30=>W.if (fun h=>?_) (fun h=>?_)
      ·try simp only [bb_250,bb_251,bb_252,bb_255,bb_256,bz]at h
       refine W.bd (AG (As k_a0)) (fun r32 q_r32=>?_)
       unfold An
       refine W.lt fun b23 bb_453=>W.lt fun b24 bb_454=>W.lt fun b25 bb_455=>W.lt fun b26 bb_456=>W.lt fun b27 bb_457=>W.lt fun b28 bb_458=>W.lt fun b29 bb_459=>W.rt trivial
      ·try simp only [bb_250,bb_251,bb_252,bb_255,bb_256,bz]at h
       unfold An
       refine W.lt fun b23 bb_460=>W.lt fun b24 bb_461=>W.lt fun b25 bb_462=>W.lt fun b26 bb_463=>W.lt fun b27 bb_464=>W.lt fun b28 bb_465=>W.lt fun b29 bb_466=>W.rt trivial
    ·try simp only [bb_250,bb_251,bb_252,bb_255,bb_256,bz]at h
     unfold BE
     try simp only [jn]
     refine W.bd (Am) fun r33 q_r33=>W.if (fun h=>?_) (fun h=>?_)
     ·try simp only [bb_250,bb_251,bb_252,bb_255,bb_256,bz]at h
      refine W.gb (fun _=>Bd) fun r35 q_r35=>W.lt (fun b36 bb_468=>?_)
      unfold AR
      try simp only [jn]
      refine W.bd (Am) fun r30 q_r30=>W.if (fun h=>?_) (fun h=>?_)
      ·try simp only [bb_250,bb_251,bb_252,bb_255,bb_256,bb_468,bz]at h
       refine W.bd (AG (As k_a0)) (fun r32 q_r32=>?_)
       unfold An
       refine W.lt fun b23 bb_469=>W.lt fun b24 bb_470=>W.lt fun b25 bb_471=>W.lt fun b26 bb_472=>W.lt fun b27 bb_473=>W.lt fun b28 bb_474=>W.lt fun b29 bb_475=>W.rt trivial
      ·try simp only [bb_250,bb_251,bb_252,bb_255,bb_256,bb_468,bz]at h
       unfold An
       refine W.lt fun b23 bb_476=>W.lt fun b24 bb_477=>W.lt fun b25 bb_478=>W.lt fun b26 bb_479=>W.lt fun b27 bb_480=>W.lt fun b28 bb_481=>W.lt fun b29 bb_482=>W.rt trivial
     ·try simp only [bb_250,bb_251,bb_252,bb_255,bb_256,bz]at h
      unfold AR
      try simp only [jn]
      refine W.bd (Am) fun r30 q_r30=>W.if (fun h=>?_) (fun h=>?_)
      ·try simp only [bb_250,bb_251,bb_252,bb_255,bb_256,bz]at h
       refine W.bd (AG (As k_a0)) (fun r32 q_r32=>?_)
       unfold An
       refine W.lt fun b23 bb_483=>W.lt fun b24 bb_484=>W.lt fun b25 bb_485=>W.lt fun b26 bb_486=>W.lt fun b27 bb_487=>W.lt fun b28 bb_488=>W.lt fun b29 bb_489=>W.rt trivial
      ·try simp only [bb_250,bb_251,bb_252,bb_255,bb_256,bz]at h
       unfold An
       refine W.lt fun b23 bb_490=>W.lt fun b24 bb_491=>W.lt fun b25 bb_492=>W.lt fun b26 bb_493=>W.lt fun b27 bb_494=>W.lt fun b28 bb_495=>W.lt fun b29 bb_496=>W.rt trivial
theorem Bi {a0:List (AV)} {a1:Int} (k_a0:B5 560 BN a0):W (Jf a0 a1) (fun r=>True):=by
 unfold Jf
 try simp only [jn]
 have:=AY k_a0
 refine W.it (fun(v:Int)=>0≤v∧(v≤(a0.length:Int)∨v≤0)) (fun v=>((a0.length:Int) - v).toNat) (by omega) (by omega) (fun i_t5_4 hv=>?_)
 unfold Nf
 refine W.if (fun h=>?_) (fun h=>?_)
 ·try simp only [bz]at h
  refine W.bd (W.idx (by omega)) fun e8 q_e8=>W.bd (sO (show BN e8 from Bp k_a0 q_e8.1)) fun r9 _=>W.if (fun _=>W.ex (W.rt trivial)) (fun h=>?_)
  try simp only [bz]at h
  have ww_1:Ac (i_t5_4+(1:Int))=i_t5_4+(1:Int):=Af (by omega) (by omega)
  exact W.nx (by(try dsimp only);first | omega | (and_intros<;>first | omega | assumption) | (simp;omega)) (by(try dsimp only);omega)
 ·try simp only [bz]at h
  refine W.ex ?_
  try dsimp only [Sum.elim_inl,Sum.elim_inr]
  unfold Nd
  refine W.lt fun b2 bb_2=>W.rt trivial
theorem RS {a0:Aw} (k_a0:Bl a0):W (PE a0) (fun r=>True):=by
 unfold PE
 try simp only [jn]
 refine W.lt fun b1 bb_1=>W.if (fun _=>W.rt trivial) (fun h=>?_)
 try simp only [bb_1,bz]at h
 refine W.lt fun b3 bb_2=>W.lt fun b4 bb_3=>W.if (fun h=>?_) (fun h=>?_)
 ·try simp only [bb_1,bb_2,bb_3,bz]at h
  refine W.bd (BK (Fv k_a0)) (fun r29 q_r29=>?_)
  replace q_r29:r29=true→0≤a0.Filter.Zone∧a0.Filter.Zone≤5∧0≤a0.Filter.Who∧a0.Filter.Who≤2∧0≤a0.Filter.Self∧a0.Filter.Self≤2∧0≤a0.Filter.Tap∧a0.Filter.Tap≤2∧0≤a0.Filter.Power.Kind∧a0.Filter.Power.Kind≤3∧0≤a0.Filter.Tough.Kind∧a0.Filter.Tough.Kind≤3∧0≤a0.Filter.Value.Kind∧a0.Filter.Value.Kind≤3∧a0.Filter.Sub.length≤32:=q_r29
  have:=AN (Ax (Fv k_a0))
  refine W.lt fun b30 bb_4=>W.gb (fun _=>ID (Dv k_a0)) fun r31 _=>W.lt fun b32 bb_6=>W.if (fun _=>W.rt trivial) (fun h=>?_)
  try simp only [bb_1,bb_2,bb_3,bb_4,bb_6,bz]at h
  unfold SW
  try simp only [jn]
  refine W.if (fun h=>?_) (fun h=>?_)
  ·try simp only [bb_1,bb_2,bb_3,bb_4,bb_6,bz]at h
   refine W.bd (U2) fun r24 q_r24=>W.if (fun _=>W.rt trivial) (fun h=>?_)
   try simp only [bb_1,bb_2,bb_3,bb_4,bb_6,bz]at h
   unfold Ks
   try simp only [jn]
   refine W.if (fun h=>?_) (fun h=>?_)
   ·try simp only [bb_1,bb_2,bb_3,bb_4,bb_6,bz]at h
    refine W.bd (RP (Dh k_a0)) fun r19 q_r19=>W.if (fun _=>W.rt trivial) (fun h=>?_)
    try simp only [bb_1,bb_2,bb_3,bb_4,bb_6,bz]at h
    unfold Eg
    try simp only [jn]
    refine W.if (fun h=>?_) (fun h=>?_)
    ·try simp only [bb_1,bb_2,bb_3,bb_4,bb_6,bz]at h
     refine W.bd (GK (BG k_a0)) fun r15 q_r15=>W.if (fun _=>W.rt trivial) (fun h=>?_)
     try simp only [bb_1,bb_2,bb_3,bb_4,bb_6,bz]at h
     unfold BV
     refine W.if (fun h=>?_) (fun h=>?_)
     ·try simp only [bb_1,bb_2,bb_3,bb_4,bb_6,bz]at h
      refine W.bd (Bv (AP k_a0)) fun r10 q_r10=>W.gb (fun _=>Bi (AE k_a0)) fun r11 q_r11=>W.lt fun b12 bb_8=>W.rt trivial
     ·try simp only [bb_1,bb_2,bb_3,bb_4,bb_6,bz]at h
      refine W.lt fun b13 bb_9=>W.rt trivial
    ·try simp only [bb_1,bb_2,bb_3,bb_4,bb_6,bz]at h
     refine W.if (fun _=>W.rt trivial) (fun h=>?_)
     try simp only [bb_1,bb_2,bb_3,bb_4,bb_6,bz]at h
     unfold BV
     refine W.if (fun h=>?_) (fun h=>?_)
     ·try simp only [bb_1,bb_2,bb_3,bb_4,bb_6,bz]at h
      refine W.bd (Bv (AP k_a0)) fun r10 q_r10=>W.gb (fun _=>Bi (AE k_a0)) fun r11 q_r11=>W.lt fun b12 bb_11=>W.rt trivial
     ·try simp only [bb_1,bb_2,bb_3,bb_4,bb_6,bz]at h
      refine W.lt fun b13 bb_12=>W.rt trivial
   ·try simp only [bb_1,bb_2,bb_3,bb_4,bb_6,bz]at h
    refine W.lt fun b21 bb_13=>W.if (fun _=>W.rt trivial) (fun h=>?_)
    try simp only [bb_1,bb_2,bb_3,bb_4,bb_6,bb_13,bz]at h
    unfold Eg
    try simp only [jn]
    refine W.if (fun h=>?_) (fun h=>?_)
    ·try simp only [bb_1,bb_2,bb_3,bb_4,bb_6,bb_13,bz]at h
     refine W.bd (GK (BG k_a0)) fun r15 q_r15=>W.if (fun _=>W.rt trivial) (fun h=>?_)
     try simp only [bb_1,bb_2,bb_3,bb_4,bb_6,bb_13,bz]at h
     unfold BV
     refine W.if (fun h=>?_) (fun h=>?_)
     ·try simp only [bb_1,bb_2,bb_3,bb_4,bb_6,bb_13,bz]at h
      refine W.bd (Bv (AP k_a0)) fun r10 q_r10=>W.gb (fun _=>Bi (AE k_a0)) fun r11 q_r11=>W.lt fun b12 bb_15=>W.rt trivial
     ·try simp only [bb_1,bb_2,bb_3,bb_4,bb_6,bb_13,bz]at h
      refine W.lt fun b13 bb_16=>W.rt trivial
    ·try simp only [bb_1,bb_2,bb_3,bb_4,bb_6,bb_13,bz]at h
     refine W.if (fun _=>W.rt trivial) (fun h=>?_)
     try simp only [bb_1,bb_2,bb_3,bb_4,bb_6,bb_13,bz]at h
     unfold BV
     refine W.if (fun h=>?_) (fun h=>?_)
     ·try simp only [bb_1,bb_2,bb_3,bb_4,bb_6,bb_13,bz]at h
      refine W.bd (Bv (AP k_a0)) fun r10 q_r10=>W.gb (fun _=>Bi (AE k_a0)) fun r11 q_r11=>W.lt fun b12 bb_18=>W.rt trivial
     ·try simp only [bb_1,bb_2,bb_3,bb_4,bb_6,bb_13,bz]at h
      refine W.lt fun b13 bb_19=>W.rt trivial
  ·try simp only [bb_1,bb_2,bb_3,bb_4,bb_6,bz]at h
   refine W.lt fun b26 bb_20=>W.if (fun _=>W.rt trivial) (fun h=>?_)
   try simp only [bb_1,bb_2,bb_3,bb_4,bb_6,bb_20,bz]at h
   unfold Ks
   try simp only [jn]
   refine W.if (fun h=>?_) (fun h=>?_)
   ·try simp only [bb_1,bb_2,bb_3,bb_4,bb_6,bb_20,bz]at h
    refine W.bd (RP (Dh k_a0)) fun r19 q_r19=>W.if (fun _=>W.rt trivial) (fun h=>?_)
    try simp only [bb_1,bb_2,bb_3,bb_4,bb_6,bb_20,bz]at h
    unfold Eg
    try simp only [jn]
    refine W.if (fun h=>?_) (fun h=>?_)
    ·try simp only [bb_1,bb_2,bb_3,bb_4,bb_6,bb_20,bz]at h
     refine W.bd (GK (BG k_a0)) fun r15 q_r15=>W.if (fun _=>W.rt trivial) (fun h=>?_)
     try simp only [bb_1,bb_2,bb_3,bb_4,bb_6,bb_20,bz]at h
     unfold BV
     refine W.if (fun h=>?_) (fun h=>?_)
     ·try simp only [bb_1,bb_2,bb_3,bb_4,bb_6,bb_20,bz]at h
      refine W.bd (Bv (AP k_a0)) fun r10 q_r10=>W.gb (fun _=>Bi (AE k_a0)) fun r11 q_r11=>W.lt fun b12 bb_22=>W.rt trivial
     ·try simp only [bb_1,bb_2,bb_3,bb_4,bb_6,bb_20,bz]at h
      refine W.lt fun b13 bb_23=>W.rt trivial
    ·try simp only [bb_1,bb_2,bb_3,bb_4,bb_6,bb_20,bz]at h
     refine W.if (fun _=>W.rt trivial) (fun h=>?_)
     try simp only [bb_1,bb_2,bb_3,bb_4,bb_6,bb_20,bz]at h
     unfold BV
     refine W.if (fun h=>?_) (fun h=>?_)
     ·try simp only [bb_1,bb_2,bb_3,bb_4,bb_6,bb_20,bz]at h
      refine W.bd (Bv (AP k_a0)) fun r10 q_r10=>W.gb (fun _=>Bi (AE k_a0)) fun r11 q_r11=>W.lt fun b12 bb_25=>W.rt trivial
     ·try simp only [bb_1,bb_2,bb_3,bb_4,bb_6,bb_20,bz]at h
      refine W.lt fun b13 bb_26=>W.rt trivial
   ·try simp only [bb_1,bb_2,bb_3,bb_4,bb_6,bb_20,bz]at h
    refine W.lt fun b21 bb_27=>W.if (fun _=>W.rt trivial) (fun h=>?_)
    try simp only [bb_1,bb_2,bb_3,bb_4,bb_6,bb_20,bb_27,bz]at h
    unfold Eg
    try simp only [jn]
    refine W.if (fun h=>?_) (fun h=>?_)
    ·try simp only [bb_1,bb_2,bb_3,bb_4,bb_6,bb_20,bb_27,bz]at h
     refine W.bd (GK (BG k_a0)) fun r15 q_r15=>W.if (fun _=>W.rt trivial) (fun h=>?_)
     try simp only [bb_1,bb_2,bb_3,bb_4,bb_6,bb_20,bb_27,bz]at h
     unfold BV
     refine W.if (fun h=>?_) (fun h=>?_)
     ·try simp only [bb_1,bb_2,bb_3,bb_4,bb_6,bb_20,bb_27,bz]at h
      refine W.bd (Bv (AP k_a0)) fun r10 q_r10=>W.gb (fun _=>Bi (AE k_a0)) fun r11 q_r11=>W.lt fun b12 bb_29=>W.rt trivial
     ·try simp only [bb_1,bb_2,bb_3,bb_4,bb_6,bb_20,bb_27,bz]at h
      refine W.lt fun b13 bb_30=>W.rt trivial
    ·try simp only [bb_1,bb_2,bb_3,bb_4,bb_6,bb_20,bb_27,bz]at h
     refine W.if (fun _=>W.rt trivial) (fun h=>?_)
     try simp only [bb_1,bb_2,bb_3,bb_4,bb_6,bb_20,bb_27,bz]at h
     unfold BV
     refine W.if (fun h=>?_) (fun h=>?_)
     ·try simp only [bb_1,bb_2,bb_3,bb_4,bb_6,bb_20,bb_27,bz]at h
      refine W.bd (Bv (AP k_a0)) fun r10 q_r10=>W.gb (fun _=>Bi (AE k_a0)) fun r11 q_r11=>W.lt fun b12 bb_32=>W.rt trivial
     ·try simp only [bb_1,bb_2,bb_3,bb_4,bb_6,bb_20,bb_27,bz]at h
      refine W.lt fun b13 bb_33=>W.rt trivial
 ·try simp only [bb_1,bb_2,bb_3,bz]at h
  refine W.lt fun b34 bb_34=>W.if (fun _=>W.rt trivial) (fun h=>?_)
  try simp only [bb_1,bb_2,bb_3,bb_34,bz]at h
  unfold SW
  try simp only [jn]
  refine W.if (fun h=>?_) (fun h=>?_)
  ·try simp only [bb_1,bb_2,bb_3,bb_34,bz]at h
   refine W.bd (U2) fun r24 q_r24=>W.if (fun _=>W.rt trivial) (fun h=>?_)
   try simp only [bb_1,bb_2,bb_3,bb_34,bz]at h
   unfold Ks
   try simp only [jn]
   refine W.if (fun h=>?_) (fun h=>?_)
   ·try simp only [bb_1,bb_2,bb_3,bb_34,bz]at h
    refine W.bd (RP (Dh k_a0)) fun r19 q_r19=>W.if (fun _=>W.rt trivial) (fun h=>?_)
    try simp only [bb_1,bb_2,bb_3,bb_34,bz]at h
    unfold Eg
    try simp only [jn]
    refine W.if (fun h=>?_) (fun h=>?_)
    ·try simp only [bb_1,bb_2,bb_3,bb_34,bz]at h
     refine W.bd (GK (BG k_a0)) fun r15 q_r15=>W.if (fun _=>W.rt trivial) (fun h=>?_)
     try simp only [bb_1,bb_2,bb_3,bb_34,bz]at h
     unfold BV
     refine W.if (fun h=>?_) (fun h=>?_)
     ·try simp only [bb_1,bb_2,bb_3,bb_34,bz]at h
      refine W.bd (Bv (AP k_a0)) fun r10 q_r10=>W.gb (fun _=>Bi (AE k_a0)) fun r11 q_r11=>W.lt fun b12 bb_36=>W.rt trivial
     ·try simp only [bb_1,bb_2,bb_3,bb_34,bz]at h
      refine W.lt fun b13 bb_37=>W.rt trivial
    ·try simp only [bb_1,bb_2,bb_3,bb_34,bz]at h
     refine W.if (fun _=>W.rt trivial) (fun h=>?_)
     try simp only [bb_1,bb_2,bb_3,bb_34,bz]at h
     unfold BV
     refine W.if (fun h=>?_) (fun h=>?_)
     ·try simp only [bb_1,bb_2,bb_3,bb_34,bz]at h
      refine W.bd (Bv (AP k_a0)) fun r10 q_r10=>W.gb (fun _=>Bi (AE k_a0)) fun r11 q_r11=>W.lt fun b12 bb_39=>W.rt trivial
     ·try simp only [bb_1,bb_2,bb_3,bb_34,bz]at h
      refine W.lt fun b13 bb_40=>W.rt trivial
   ·try simp only [bb_1,bb_2,bb_3,bb_34,bz]at h
    refine W.lt fun b21 bb_41=>W.if (fun _=>W.rt trivial) (fun h=>?_)
    try simp only [bb_1,bb_2,bb_3,bb_34,bb_41,bz]at h
    unfold Eg
    try simp only [jn]
    refine W.if (fun h=>?_) (fun h=>?_)
    ·try simp only [bb_1,bb_2,bb_3,bb_34,bb_41,bz]at h
     refine W.bd (GK (BG k_a0)) fun r15 q_r15=>W.if (fun _=>W.rt trivial) (fun h=>?_)
     try simp only [bb_1,bb_2,bb_3,bb_34,bb_41,bz]at h
     unfold BV
     refine W.if (fun h=>?_) (fun h=>?_)
     ·try simp only [bb_1,bb_2,bb_3,bb_34,bb_41,bz]at h
      refine W.bd (Bv (AP k_a0)) fun r10 q_r10=>W.gb (fun _=>Bi (AE k_a0)) fun r11 q_r11=>W.lt fun b12 bb_43=>W.rt trivial
     ·try simp only [bb_1,bb_2,bb_3,bb_34,bb_41,bz]at h
      refine W.lt fun b13 bb_44=>W.rt trivial
    ·try simp only [bb_1,bb_2,bb_3,bb_34,bb_41,bz]at h
     refine W.if (fun _=>W.rt trivial) (fun h=>?_)
     try simp only [bb_1,bb_2,bb_3,bb_34,bb_41,bz]at h
     unfold BV
     refine W.if (fun h=>?_) (fun h=>?_)
     ·try simp only [bb_1,bb_2,bb_3,bb_34,bb_41,bz]at h
      refine W.bd (Bv (AP k_a0)) fun r10 q_r10=>W.gb (fun _=>Bi (AE k_a0)) fun r11 q_r11=>W.lt fun b12 bb_46=>W.rt trivial
     ·try simp only [bb_1,bb_2,bb_3,bb_34,bb_41,bz]at h
      refine W.lt fun b13 bb_47=>W.rt trivial
  ·try simp only [bb_1,bb_2,bb_3,bb_34,bz]at h
   refine W.lt fun b26 bb_48=>W.if (fun _=>W.rt trivial) (fun h=>?_)
   try simp only [bb_1,bb_2,bb_3,bb_34,bb_48,bz]at h
   unfold Ks
   try simp only [jn]
   refine W.if (fun h=>?_) (fun h=>?_)
   ·try simp only [bb_1,bb_2,bb_3,bb_34,bb_48,bz]at h
    refine W.bd (RP (Dh k_a0)) fun r19 q_r19=>W.if (fun _=>W.rt trivial) (fun h=>?_)
    try simp only [bb_1,bb_2,bb_3,bb_34,bb_48,bz]at h
    unfold Eg
    try simp only [jn]
    refine W.if (fun h=>?_) (fun h=>?_)
    ·try simp only [bb_1,bb_2,bb_3,bb_34,bb_48,bz]at h
     refine W.bd (GK (BG k_a0)) fun r15 q_r15=>W.if (fun _=>W.rt trivial) (fun h=>?_)
     try simp only [bb_1,bb_2,bb_3,bb_34,bb_48,bz]at h
     unfold BV
     refine W.if (fun h=>?_) (fun h=>?_)
     ·try simp only [bb_1,bb_2,bb_3,bb_34,bb_48,bz]at h
      refine W.bd (Bv (AP k_a0)) fun r10 q_r10=>W.gb (fun _=>Bi (AE k_a0)) fun r11 q_r11=>W.lt fun b12 bb_50=>W.rt trivial
     ·try simp only [bb_1,bb_2,bb_3,bb_34,bb_48,bz]at h
      refine W.lt fun b13 bb_51=>W.rt trivial
    ·try simp only [bb_1,bb_2,bb_3,bb_34,bb_48,bz]at h
     refine W.if (fun _=>W.rt trivial) (fun h=>?_)
     try simp only [bb_1,bb_2,bb_3,bb_34,bb_48,bz]at h
     unfold BV
     refine W.if (fun h=>?_) (fun h=>?_)
     ·try simp only [bb_1,bb_2,bb_3,bb_34,bb_48,bz]at h
      refine W.bd (Bv (AP k_a0)) fun r10 q_r10=>W.gb (fun _=>Bi (AE k_a0)) fun r11 q_r11=>W.lt fun b12 bb_53=>W.rt trivial
     ·try simp only [bb_1,bb_2,bb_3,bb_34,bb_48,bz]at h
      refine W.lt fun b13 bb_54=>W.rt trivial
   ·try simp only [bb_1,bb_2,bb_3,bb_34,bb_48,bz]at h
    refine W.lt fun b21 bb_55=>W.if (fun _=>W.rt trivial) (fun h=>?_)
    try simp only [bb_1,bb_2,bb_3,bb_34,bb_48,bb_55,bz]at h
    unfold Eg
    try simp only [jn]
    refine W.if (fun h=>?_) (fun h=>?_)
    ·try simp only [bb_1,bb_2,bb_3,bb_34,bb_48,bb_55,bz]at h
     refine W.bd (GK (BG k_a0)) fun r15 q_r15=>W.if (fun _=>W.rt trivial) (fun h=>?_)
     try simp only [bb_1,bb_2,bb_3,bb_34,bb_48,bb_55,bz]at h
     unfold BV
     refine W.if (fun h=>?_) (fun h=>?_)
     ·try simp only [bb_1,bb_2,bb_3,bb_34,bb_48,bb_55,bz]at h
      refine W.bd (Bv (AP k_a0)) fun r10 q_r10=>W.gb (fun _=>Bi (AE k_a0)) fun r11 q_r11=>W.lt fun b12 bb_57=>W.rt trivial
     ·try simp only [bb_1,bb_2,bb_3,bb_34,bb_48,bb_55,bz]at h
      refine W.lt fun b13 bb_58=>W.rt trivial
    ·try simp only [bb_1,bb_2,bb_3,bb_34,bb_48,bb_55,bz]at h
     refine W.if (fun _=>W.rt trivial) (fun h=>?_)
     try simp only [bb_1,bb_2,bb_3,bb_34,bb_48,bb_55,bz]at h
     unfold BV
     refine W.if (fun h=>?_) (fun h=>?_)
     ·try simp only [bb_1,bb_2,bb_3,bb_34,bb_48,bb_55,bz]at h
      refine W.bd (Bv (AP k_a0)) fun r10 q_r10=>W.gb (fun _=>Bi (AE k_a0)) fun r11 q_r11=>W.lt fun b12 bb_60=>W.rt trivial
     ·try simp only [bb_1,bb_2,bb_3,bb_34,bb_48,bb_55,bz]at h
      refine W.lt fun b13 bb_61=>W.rt trivial
end Go.PL
