/- Functions that answer: proofs. -/
import Derived.Test.YtiddnfpjgojoaaaGreatDoorPlEdB
import Derived.Test.YtiddnfpjgojoaaaGreatDoorPlEdF1
import Derived.Test.YtiddnfpjgojoaaaGreatDoorPlEtL
namespace Go.PL
open Go
set_option maxRecDepth 100000
set_option linter.all false
set_option maxHeartbeats 2000000
theorem mA {a0:Int}:W (QP a0) (fun r=>r.length≤5):=by
 unfold QP
 try simp only [jn]
 refine W.if (fun h=>?_) (fun h=>?_)
 ·try simp only [bz]at h
  unfold C8
  try simp only [jn]
  refine W.if (fun h=>?_) (fun h=>?_)
  ·try simp only [bz]at h
   refine W.rt ?_
   have ll_1:UI.length=1:=rfl
   first | omega | decide
  ·try simp only [bz]at h
   refine W.if (fun h=>?_) (fun h=>?_)
   ·try simp only [bz]at h
    refine W.rt ?_
    have ll_2:MF.length=2:=rfl
    first | omega | decide
   ·try simp only [bz]at h
    refine W.if (fun h=>?_) (fun h=>?_)
    ·try simp only [bz]at h
     unfold BD
     try simp only [jn]
     refine W.if (fun h=>?_) (fun h=>?_)
     ·try simp only [bz]at h
      refine W.rt ?_
      have ll_3:Db.length=3:=rfl
      first | omega | decide
     ·try simp only [bz]at h
      refine W.if (fun h=>?_) (fun h=>?_)
      ·try simp only [bz]at h
       refine W.rt ?_
       have ll_4:Dc.length=3:=rfl
       first | omega | decide
      ·try simp only [bz]at h
       refine W.if (fun h=>?_) (fun h=>?_)
       ·try simp only [bz]at h
        refine W.rt ?_
        have ll_5:EH.length=2:=rfl
        first | omega | decide
       ·try simp only [bz]at h
        refine W.if (fun h=>?_) (fun h=>?_)
        ·try simp only [bz]at h
         refine W.rt ?_
         have ll_6:H7.length=1:=rfl
         first | omega | decide
        ·try simp only [bz]at h
         refine W.if (fun h=>?_) (fun h=>?_)
         ·try simp only [bz]at h
          refine W.rt ?_
          have ll_7:Dd.length=3:=rfl
          first | omega | decide
         ·try simp only [bz]at h
          refine W.if (fun h=>?_) (fun h=>?_)
          ·try simp only [bz]at h
           refine W.rt ?_
           have ll_8:H8.length=1:=rfl
           first | omega | decide
          ·try simp only [bz]at h
           refine W.if (fun h=>?_) (fun h=>?_)
           ·try simp only [bz]at h
            refine W.rt ?_
            have ll_9:H9.length=1:=rfl
            first | omega | decide
           ·try simp only [bz]at h
            refine W.if (fun h=>?_) (fun h=>?_)
            ·try simp only [bz]at h
             unfold AL
             refine W.if (fun h=>?_) (fun h=>?_)
             ·try simp only [bz]at h
              refine W.rt ?_
              first | omega | decide
             ·try simp only [bz]at h
              refine W.rt ?_
              have ll_10:B2.length=2:=rfl
              first | omega | decide
            ·try simp only [bz]at h
             unfold AL
             refine W.if (fun h=>?_) (fun h=>?_)
             ·try simp only [bz]at h
              refine W.rt ?_
              first | omega | decide
             ·try simp only [bz]at h
              refine W.rt ?_
              have ll_11:B2.length=2:=rfl
              first | omega | decide
    ·try simp only [bz]at h
     unfold BD
     try simp only [jn]
     refine W.if (fun h=>?_) (fun h=>?_)
     ·try simp only [bz]at h
      refine W.rt ?_
      have ll_12:Db.length=3:=rfl
      first | omega | decide
     ·try simp only [bz]at h
      refine W.if (fun h=>?_) (fun h=>?_)
      ·try simp only [bz]at h
       refine W.rt ?_
       have ll_13:Dc.length=3:=rfl
       first | omega | decide
      ·try simp only [bz]at h
       refine W.if (fun h=>?_) (fun h=>?_)
       ·try simp only [bz]at h
        refine W.rt ?_
        have ll_14:EH.length=2:=rfl
        first | omega | decide
       ·try simp only [bz]at h
        refine W.if (fun h=>?_) (fun h=>?_)
        ·try simp only [bz]at h
         refine W.rt ?_
         have ll_15:H7.length=1:=rfl
         first | omega | decide
        ·try simp only [bz]at h
         refine W.if (fun h=>?_) (fun h=>?_)
         ·try simp only [bz]at h
          refine W.rt ?_
          have ll_16:Dd.length=3:=rfl
          first | omega | decide
         ·try simp only [bz]at h
          refine W.if (fun h=>?_) (fun h=>?_)
          ·try simp only [bz]at h
           refine W.rt ?_
           have ll_17:H8.length=1:=rfl
           first | omega | decide
          ·try simp only [bz]at h
           refine W.if (fun h=>?_) (fun h=>?_)
           ·try simp only [bz]at h
            refine W.rt ?_
            have ll_18:H9.length=1:=rfl
            first | omega | decide
           ·try simp only [bz]at h
            refine W.if (fun h=>?_) (fun h=>?_)
            ·try simp only [bz]at h
             unfold AL
             refine W.if (fun h=>?_) (fun h=>?_)
             ·try simp only [bz]at h
              refine W.rt ?_
              first | omega | decide
             ·try simp only [bz]at h
              refine W.rt ?_
              have ll_19:B2.length=2:=rfl
              first | omega | decide
            ·try simp only [bz]at h
             unfold AL
             refine W.if (fun h=>?_) (fun h=>?_)
             ·try simp only [bz]at h
              refine W.rt ?_
              first | omega | decide
             ·try simp only [bz]at h
              refine W.rt ?_
              have ll_20:B2.length=2:=rfl
              first | omega | decide
 ·try simp only [bz]at h
  refine W.if (fun h=>?_) (fun h=>?_)
  ·try simp only [bz]at h
   unfold C8
   try simp only [jn]
   refine W.if (fun h=>?_) (fun h=>?_)
   ·try simp only [bz]at h
    refine W.rt ?_
    have ll_21:UI.length=1:=rfl
    first | omega | decide
   ·try simp only [bz]at h
    refine W.if (fun h=>?_) (fun h=>?_)
    ·try simp only [bz]at h
     refine W.rt ?_
     have ll_22:MF.length=2:=rfl
     first | omega | decide
    ·try simp only [bz]at h
     refine W.if (fun h=>?_) (fun h=>?_)
     ·try simp only [bz]at h
      unfold BD
      try simp only [jn]
      refine W.if (fun h=>?_) (fun h=>?_)
      ·try simp only [bz]at h
       refine W.rt ?_
       have ll_23:Db.length=3:=rfl
       first | omega | decide
      ·try simp only [bz]at h
       refine W.if (fun h=>?_) (fun h=>?_)
       ·try simp only [bz]at h
        refine W.rt ?_
        have ll_24:Dc.length=3:=rfl
        first | omega | decide
       ·try simp only [bz]at h
        refine W.if (fun h=>?_) (fun h=>?_)
        ·try simp only [bz]at h
         refine W.rt ?_
         have ll_25:EH.length=2:=rfl
         first | omega | decide
        ·try simp only [bz]at h
         refine W.if (fun h=>?_) (fun h=>?_)
         ·try simp only [bz]at h
          refine W.rt ?_
          have ll_26:H7.length=1:=rfl
          first | omega | decide
         ·try simp only [bz]at h
          refine W.if (fun h=>?_) (fun h=>?_)
          ·try simp only [bz]at h
           refine W.rt ?_
           have ll_27:Dd.length=3:=rfl
           first | omega | decide
          ·try simp only [bz]at h
           refine W.if (fun h=>?_) (fun h=>?_)
           ·try simp only [bz]at h
            refine W.rt ?_
            have ll_28:H8.length=1:=rfl
            first | omega | decide
           ·try simp only [bz]at h
            refine W.if (fun h=>?_) (fun h=>?_)
            ·try simp only [bz]at h
             refine W.rt ?_
             have ll_29:H9.length=1:=rfl
             first | omega | decide
            ·try simp only [bz]at h
             refine W.if (fun h=>?_) (fun h=>?_)
             ·try simp only [bz]at h
              unfold AL
              refine W.if (fun h=>?_) (fun h=>?_)
              ·try simp only [bz]at h
               refine W.rt ?_
               first | omega | decide
              ·try simp only [bz]at h
               refine W.rt ?_
               have ll_30:B2.length=2:=rfl
               first | omega | decide
             ·try simp only [bz]at h
              unfold AL
              refine W.if (fun h=>?_) (fun h=>?_)
              ·try simp only [bz]at h
               refine W.rt ?_
               first | omega | decide
              ·try simp only [bz]at h
               refine W.rt ?_
               have ll_31:B2.length=2:=rfl
               first | omega | decide
     ·try simp only [bz]at h
      unfold BD
      try simp only [jn]
      refine W.if (fun h=>?_) (fun h=>?_)
      ·try simp only [bz]at h
       refine W.rt ?_
       have ll_32:Db.length=3:=rfl
       first | omega | decide
      ·try simp only [bz]at h
       refine W.if (fun h=>?_) (fun h=>?_)
       ·try simp only [bz]at h
        refine W.rt ?_
        have ll_33:Dc.length=3:=rfl
        first | omega | decide
       ·try simp only [bz]at h
        refine W.if (fun h=>?_) (fun h=>?_)
        ·try simp only [bz]at h
         refine W.rt ?_
         have ll_34:EH.length=2:=rfl
         first | omega | decide
        ·try simp only [bz]at h
         refine W.if (fun h=>?_) (fun h=>?_)
         ·try simp only [bz]at h
          refine W.rt ?_
          have ll_35:H7.length=1:=rfl
          first | omega | decide
         ·try simp only [bz]at h
          refine W.if (fun h=>?_) (fun h=>?_)
          ·try simp only [bz]at h
           refine W.rt ?_
           have ll_36:Dd.length=3:=rfl
           first | omega | decide
          ·try simp only [bz]at h
           refine W.if (fun h=>?_) (fun h=>?_)
           ·try simp only [bz]at h
            refine W.rt ?_
            have ll_37:H8.length=1:=rfl
            first | omega | decide
           ·try simp only [bz]at h
            refine W.if (fun h=>?_) (fun h=>?_)
            ·try simp only [bz]at h
             refine W.rt ?_
             have ll_38:H9.length=1:=rfl
             first | omega | decide
            ·try simp only [bz]at h
             refine W.if (fun h=>?_) (fun h=>?_)
             ·try simp only [bz]at h
              unfold AL
              refine W.if (fun h=>?_) (fun h=>?_)
              ·try simp only [bz]at h
               refine W.rt ?_
               first | omega | decide
              ·try simp only [bz]at h
               refine W.rt ?_
               have ll_39:B2.length=2:=rfl
               first | omega | decide
             ·try simp only [bz]at h
              unfold AL
              refine W.if (fun h=>?_) (fun h=>?_)
              ·try simp only [bz]at h
               refine W.rt ?_
               first | omega | decide
              ·try simp only [bz]at h
               refine W.rt ?_
               have ll_40:B2.length=2:=rfl
               first | omega | decide
  ·try simp only [bz]at h
   refine W.if (fun h=>?_) (fun h=>?_)
   ·try simp only [bz]at h
    unfold C8
    try simp only [jn]
    refine W.if (fun h=>?_) (fun h=>?_)
    ·try simp only [bz]at h
     refine W.rt ?_
     have ll_41:UI.length=1:=rfl
     first | omega | decide
    ·try simp only [bz]at h
     refine W.if (fun h=>?_) (fun h=>?_)
     ·try simp only [bz]at h
      refine W.rt ?_
      have ll_42:MF.length=2:=rfl
      first | omega | decide
     ·try simp only [bz]at h
      refine W.if (fun h=>?_) (fun h=>?_)
      ·try simp only [bz]at h
       unfold BD
       try simp only [jn]
       refine W.if (fun h=>?_) (fun h=>?_)
       ·try simp only [bz]at h
        refine W.rt ?_
        have ll_43:Db.length=3:=rfl
        first | omega | decide
       ·try simp only [bz]at h
        refine W.if (fun h=>?_) (fun h=>?_)
        ·try simp only [bz]at h
         refine W.rt ?_
         have ll_44:Dc.length=3:=rfl
         first | omega | decide
        ·try simp only [bz]at h
         refine W.if (fun h=>?_) (fun h=>?_)
         ·try simp only [bz]at h
          refine W.rt ?_
          have ll_45:EH.length=2:=rfl
          first | omega | decide
         ·try simp only [bz]at h
          refine W.if (fun h=>?_) (fun h=>?_)
          ·try simp only [bz]at h
           refine W.rt ?_
           have ll_46:H7.length=1:=rfl
           first | omega | decide
          ·try simp only [bz]at h
           refine W.if (fun h=>?_) (fun h=>?_)
           ·try simp only [bz]at h
            refine W.rt ?_
            have ll_47:Dd.length=3:=rfl
            first | omega | decide
           ·try simp only [bz]at h
            refine W.if (fun h=>?_) (fun h=>?_)
            ·try simp only [bz]at h
             refine W.rt ?_
             have ll_48:H8.length=1:=rfl
             first | omega | decide
            ·try simp only [bz]at h
             refine W.if (fun h=>?_) (fun h=>?_)
             ·try simp only [bz]at h
              refine W.rt ?_
              have ll_49:H9.length=1:=rfl
              first | omega | decide
             ·try simp only [bz]at h
              refine W.if (fun h=>?_) (fun h=>?_)
              ·try simp only [bz]at h
               unfold AL
               refine W.if (fun h=>?_) (fun h=>?_)
               ·try simp only [bz]at h
                refine W.rt ?_
                first | omega | decide
               ·try simp only [bz]at h
                refine W.rt ?_
                have ll_50:B2.length=2:=rfl
                first | omega | decide
              ·try simp only [bz]at h
               unfold AL
               refine W.if (fun h=>?_) (fun h=>?_)
               ·try simp only [bz]at h
                refine W.rt ?_
                first | omega | decide
               ·try simp only [bz]at h
                refine W.rt ?_
                have ll_51:B2.length=2:=rfl
                first | omega | decide
      ·try simp only [bz]at h
       unfold BD
       try simp only [jn]
       refine W.if (fun h=>?_) (fun h=>?_)
       ·try simp only [bz]at h
        refine W.rt ?_
        have ll_52:Db.length=3:=rfl
        first | omega | decide
       ·try simp only [bz]at h
        refine W.if (fun h=>?_) (fun h=>?_)
        ·try simp only [bz]at h
         refine W.rt ?_
         have ll_53:Dc.length=3:=rfl
         first | omega | decide
        ·try simp only [bz]at h
         refine W.if (fun h=>?_) (fun h=>?_)
         ·try simp only [bz]at h
          refine W.rt ?_
          have ll_54:EH.length=2:=rfl
          first | omega | decide
         ·try simp only [bz]at h
          refine W.if (fun h=>?_) (fun h=>?_)
          ·try simp only [bz]at h
           refine W.rt ?_
           have ll_55:H7.length=1:=rfl
           first | omega | decide
          ·try simp only [bz]at h
           refine W.if (fun h=>?_) (fun h=>?_)
           ·try simp only [bz]at h
            refine W.rt ?_
            have ll_56:Dd.length=3:=rfl
            first | omega | decide
           ·try simp only [bz]at h
            refine W.if (fun h=>?_) (fun h=>?_)
            ·try simp only [bz]at h
             refine W.rt ?_
             have ll_57:H8.length=1:=rfl
             first | omega | decide
            ·try simp only [bz]at h
             refine W.if (fun h=>?_) (fun h=>?_)
             ·try simp only [bz]at h
              refine W.rt ?_
              have ll_58:H9.length=1:=rfl
              first | omega | decide
             ·try simp only [bz]at h
              refine W.if (fun h=>?_) (fun h=>?_)
              ·try simp only [bz]at h
               unfold AL
               refine W.if (fun h=>?_) (fun h=>?_)
               ·try simp only [bz]at h
                refine W.rt ?_
                first | omega | decide
               ·try simp only [bz]at h
                refine W.rt ?_
                have ll_59:B2.length=2:=rfl
                first | omega | decide
              ·try simp only [bz]at h
               unfold AL
               refine W.if (fun h=>?_) (fun h=>?_)
               ·try simp only [bz]at h
                refine W.rt ?_
                first | omega | decide
               ·try simp only [bz]at h
                refine W.rt ?_
                have ll_60:B2.length=2:=rfl
                first | omega | decide
   ·try simp only [bz]at h
    refine W.if (fun h=>?_) (fun h=>?_)
    ·try simp only [bz]at h
     unfold C8
     try simp only [jn]
     refine W.if (fun h=>?_) (fun h=>?_)
     ·try simp only [bz]at h
      refine W.rt ?_
      have ll_61:UI.length=1:=rfl
      first | omega | decide
     ·try simp only [bz]at h
      refine W.if (fun h=>?_) (fun h=>?_)
      ·try simp only [bz]at h
       refine W.rt ?_
       have ll_62:MF.length=2:=rfl
       first | omega | decide
      ·try simp only [bz]at h
       refine W.if (fun h=>?_) (fun h=>?_)
       ·try simp only [bz]at h
        unfold BD
        try simp only [jn]
        refine W.if (fun h=>?_) (fun h=>?_)
        ·try simp only [bz]at h
         refine W.rt ?_
         have ll_63:Db.length=3:=rfl
         first | omega | decide
        ·try simp only [bz]at h
         refine W.if (fun h=>?_) (fun h=>?_)
         ·try simp only [bz]at h
          refine W.rt ?_
          have ll_64:Dc.length=3:=rfl
          first | omega | decide
         ·try simp only [bz]at h
          refine W.if (fun h=>?_) (fun h=>?_)
          ·try simp only [bz]at h
           refine W.rt ?_
           have ll_65:EH.length=2:=rfl
           first | omega | decide
          ·try simp only [bz]at h
           refine W.if (fun h=>?_) (fun h=>?_)
           ·try simp only [bz]at h
            refine W.rt ?_
            have ll_66:H7.length=1:=rfl
            first | omega | decide
           ·try simp only [bz]at h
            refine W.if (fun h=>?_) (fun h=>?_)
            ·try simp only [bz]at h
             refine W.rt ?_
             have ll_67:Dd.length=3:=rfl
             first | omega | decide
            ·try simp only [bz]at h
             refine W.if (fun h=>?_) (fun h=>?_)
             ·try simp only [bz]at h
              refine W.rt ?_
              have ll_68:H8.length=1:=rfl
              first | omega | decide
             ·try simp only [bz]at h
              refine W.if (fun h=>?_) (fun h=>?_)
              ·try simp only [bz]at h
               refine W.rt ?_
               have ll_69:H9.length=1:=rfl
               first | omega | decide
              ·try simp only [bz]at h
               refine W.if (fun h=>?_) (fun h=>?_)
               ·try simp only [bz]at h
                unfold AL
                refine W.if (fun h=>?_) (fun h=>?_)
                ·try simp only [bz]at h
                 refine W.rt ?_
                 first | omega | decide
                ·try simp only [bz]at h
                 refine W.rt ?_
                 have ll_70:B2.length=2:=rfl
                 first | omega | decide
               ·try simp only [bz]at h
                unfold AL
                refine W.if (fun h=>?_) (fun h=>?_)
                ·try simp only [bz]at h
                 refine W.rt ?_
                 first | omega | decide
                ·try simp only [bz]at h
                 refine W.rt ?_
                 have ll_71:B2.length=2:=rfl
                 first | omega | decide
       ·try simp only [bz]at h
        unfold BD
        try simp only [jn]
        refine W.if (fun h=>?_) (fun h=>?_)
        ·try simp only [bz]at h
         refine W.rt ?_
         have ll_72:Db.length=3:=rfl
         first | omega | decide
        ·try simp only [bz]at h
         refine W.if (fun h=>?_) (fun h=>?_)
         ·try simp only [bz]at h
          refine W.rt ?_
          have ll_73:Dc.length=3:=rfl
          first | omega | decide
         ·try simp only [bz]at h
          refine W.if (fun h=>?_) (fun h=>?_)
          ·try simp only [bz]at h
           refine W.rt ?_
           have ll_74:EH.length=2:=rfl
           first | omega | decide
          ·try simp only [bz]at h
           refine W.if (fun h=>?_) (fun h=>?_)
           ·try simp only [bz]at h
            refine W.rt ?_
            have ll_75:H7.length=1:=rfl
            first | omega | decide
           ·try simp only [bz]at h
            refine W.if (fun h=>?_) (fun h=>?_)
            ·try simp only [bz]at h
             refine W.rt ?_
             have ll_76:Dd.length=3:=rfl
             first | omega | decide
            ·try simp only [bz]at h
             refine W.if (fun h=>?_) (fun h=>?_)
             ·try simp only [bz]at h
              refine W.rt ?_
              have ll_77:H8.length=1:=rfl
              first | omega | decide
             ·try simp only [bz]at h
              refine W.if (fun h=>?_) (fun h=>?_)
              ·try simp only [bz]at h
               refine W.rt ?_
               have ll_78:H9.length=1:=rfl
               first | omega | decide
              ·try simp only [bz]at h
               refine W.if (fun h=>?_) (fun h=>?_)
               ·try simp only [bz]at h
                unfold AL
                refine W.if (fun h=>?_) (fun h=>?_)
                ·try simp only [bz]at h
                 refine W.rt ?_
                 first | omega | decide
                ·try simp only [bz]at h
                 refine W.rt ?_
                 have ll_79:B2.length=2:=rfl
                 first | omega | decide
               ·try simp only [bz]at h
                unfold AL
                refine W.if (fun h=>?_) (fun h=>?_)
                ·try simp only [bz]at h
                 refine W.rt ?_
                 first | omega | decide
                ·try simp only [bz]at h
                 refine W.rt ?_
                 have ll_80:B2.length=2:=rfl
                 first | omega | decide
    ·try simp only [bz]at h
     refine W.if (fun h=>?_) (fun h=>?_)
     ·try simp only [bz]at h
      unfold C8
      try simp only [jn]
      refine W.if (fun h=>?_) (fun h=>?_)
      ·try simp only [bz]at h
       refine W.rt ?_
       have ll_81:UI.length=1:=rfl
       first | omega | decide
      ·try simp only [bz]at h
       refine W.if (fun h=>?_) (fun h=>?_)
       ·try simp only [bz]at h
        refine W.rt ?_
        have ll_82:MF.length=2:=rfl
        first | omega | decide
       ·try simp only [bz]at h
        refine W.if (fun h=>?_) (fun h=>?_)
        ·try simp only [bz]at h
         unfold BD
         try simp only [jn]
         refine W.if (fun h=>?_) (fun h=>?_)
         ·try simp only [bz]at h
          refine W.rt ?_
          have ll_83:Db.length=3:=rfl
          first | omega | decide
         ·try simp only [bz]at h
          refine W.if (fun h=>?_) (fun h=>?_)
          ·try simp only [bz]at h
           refine W.rt ?_
           have ll_84:Dc.length=3:=rfl
           first | omega | decide
          ·try simp only [bz]at h
           refine W.if (fun h=>?_) (fun h=>?_)
           ·try simp only [bz]at h
            refine W.rt ?_
            have ll_85:EH.length=2:=rfl
            first | omega | decide
           ·try simp only [bz]at h
            refine W.if (fun h=>?_) (fun h=>?_)
            ·try simp only [bz]at h
             refine W.rt ?_
             have ll_86:H7.length=1:=rfl
             first | omega | decide
            ·try simp only [bz]at h
             refine W.if (fun h=>?_) (fun h=>?_)
             ·try simp only [bz]at h
              refine W.rt ?_
              have ll_87:Dd.length=3:=rfl
              first | omega | decide
             ·try simp only [bz]at h
              refine W.if (fun h=>?_) (fun h=>?_)
              ·try simp only [bz]at h
               refine W.rt ?_
               have ll_88:H8.length=1:=rfl
               first | omega | decide
              ·try simp only [bz]at h
               refine W.if (fun h=>?_) (fun h=>?_)
               ·try simp only [bz]at h
                refine W.rt ?_
                have ll_89:H9.length=1:=rfl
                first | omega | decide
               ·try simp only [bz]at h
                refine W.if (fun h=>?_) (fun h=>?_)
                ·try simp only [bz]at h
                 unfold AL
                 refine W.if (fun h=>?_) (fun h=>?_)
                 ·try simp only [bz]at h
                  refine W.rt ?_
                  first | omega | decide
                 ·try simp only [bz]at h
                  refine W.rt ?_
                  have ll_90:B2.length=2:=rfl
                  first | omega | decide
                ·try simp only [bz]at h
                 unfold AL
                 refine W.if (fun h=>?_) (fun h=>?_)
                 ·try simp only [bz]at h
                  refine W.rt ?_
                  first | omega | decide
                 ·try simp only [bz]at h
                  refine W.rt ?_
                  have ll_91:B2.length=2:=rfl
                  first | omega | decide
        ·try simp only [bz]at h
         unfold BD
         try simp only [jn]
         refine W.if (fun h=>?_) (fun h=>?_)
         ·try simp only [bz]at h
          refine W.rt ?_
          have ll_92:Db.length=3:=rfl
          first | omega | decide
         ·try simp only [bz]at h
          refine W.if (fun h=>?_) (fun h=>?_)
          ·try simp only [bz]at h
           refine W.rt ?_
           have ll_93:Dc.length=3:=rfl
           first | omega | decide
          ·try simp only [bz]at h
           refine W.if (fun h=>?_) (fun h=>?_)
           ·try simp only [bz]at h
            refine W.rt ?_
            have ll_94:EH.length=2:=rfl
            first | omega | decide
           ·try simp only [bz]at h
            refine W.if (fun h=>?_) (fun h=>?_)
            ·try simp only [bz]at h
             refine W.rt ?_
             have ll_95:H7.length=1:=rfl
             first | omega | decide
            ·try simp only [bz]at h
             refine W.if (fun h=>?_) (fun h=>?_)
             ·try simp only [bz]at h
              refine W.rt ?_
              have ll_96:Dd.length=3:=rfl
              first | omega | decide
             ·try simp only [bz]at h
              refine W.if (fun h=>?_) (fun h=>?_)
              ·try simp only [bz]at h
               refine W.rt ?_
               have ll_97:H8.length=1:=rfl
               first | omega | decide
              ·try simp only [bz]at h
               refine W.if (fun h=>?_) (fun h=>?_)
               ·try simp only [bz]at h
                refine W.rt ?_
                have ll_98:H9.length=1:=rfl
                first | omega | decide
               ·try simp only [bz]at h
                refine W.if (fun h=>?_) (fun h=>?_)
                ·try simp only [bz]at h
                 unfold AL
                 refine W.if (fun h=>?_) (fun h=>?_)
                 ·try simp only [bz]at h
                  refine W.rt ?_
                  first | omega | decide
                 ·try simp only [bz]at h
                  refine W.rt ?_
                  have ll_99:B2.length=2:=rfl
                  first | omega | decide
                ·try simp only [bz]at h
                 unfold AL
                 refine W.if (fun h=>?_) (fun h=>?_)
                 ·try simp only [bz]at h
                  refine W.rt ?_
                  first | omega | decide
                 ·try simp only [bz]at h
                  refine W.rt ?_
                  have ll_100:B2.length=2:=rfl
                  first | omega | decide
     ·try simp only [bz]at h
      refine W.if (fun h=>?_) (fun h=>?_)
      ·try simp only [bz]at h
       unfold C8
       try simp only [jn]
       refine W.if (fun h=>?_) (fun h=>?_)
       ·try simp only [bz]at h
        refine W.rt ?_
        have ll_101:UI.length=1:=rfl
        first | omega | decide
       ·try simp only [bz]at h
        refine W.if (fun h=>?_) (fun h=>?_)
        ·try simp only [bz]at h
         refine W.rt ?_
         have ll_102:MF.length=2:=rfl
         first | omega | decide
        ·try simp only [bz]at h
         refine W.if (fun h=>?_) (fun h=>?_)
         ·try simp only [bz]at h
          unfold BD
          try simp only [jn]
          refine W.if (fun h=>?_) (fun h=>?_)
          ·try simp only [bz]at h
           refine W.rt ?_
           have ll_103:Db.length=3:=rfl
           first | omega | decide
          ·try simp only [bz]at h
           refine W.if (fun h=>?_) (fun h=>?_)
           ·try simp only [bz]at h
            refine W.rt ?_
            have ll_104:Dc.length=3:=rfl
            first | omega | decide
           ·try simp only [bz]at h
            refine W.if (fun h=>?_) (fun h=>?_)
            ·try simp only [bz]at h
             refine W.rt ?_
             have ll_105:EH.length=2:=rfl
             first | omega | decide
            ·try simp only [bz]at h
             refine W.if (fun h=>?_) (fun h=>?_)
             ·try simp only [bz]at h
              refine W.rt ?_
              have ll_106:H7.length=1:=rfl
              first | omega | decide
             ·try simp only [bz]at h
              refine W.if (fun h=>?_) (fun h=>?_)
              ·try simp only [bz]at h
               refine W.rt ?_
               have ll_107:Dd.length=3:=rfl
               first | omega | decide
              ·try simp only [bz]at h
               refine W.if (fun h=>?_) (fun h=>?_)
               ·try simp only [bz]at h
                refine W.rt ?_
                have ll_108:H8.length=1:=rfl
                first | omega | decide
               ·try simp only [bz]at h
                refine W.if (fun h=>?_) (fun h=>?_)
                ·try simp only [bz]at h
                 refine W.rt ?_
                 have ll_109:H9.length=1:=rfl
                 first | omega | decide
                ·try simp only [bz]at h
                 refine W.if (fun h=>?_) (fun h=>?_)
                 ·try simp only [bz]at h
                  unfold AL
                  refine W.if (fun h=>?_) (fun h=>?_)
                  ·try simp only [bz]at h
                   refine W.rt ?_
                   first | omega | decide
                  ·try simp only [bz]at h
                   refine W.rt ?_
                   have ll_110:B2.length=2:=rfl
                   first | omega | decide
                 ·try simp only [bz]at h
                  unfold AL
                  refine W.if (fun h=>?_) (fun h=>?_)
                  ·try simp only [bz]at h
                   refine W.rt ?_
                   first | omega | decide
                  ·try simp only [bz]at h
                   refine W.rt ?_
                   have ll_111:B2.length=2:=rfl
                   first | omega | decide
         ·try simp only [bz]at h
          unfold BD
          try simp only [jn]
          refine W.if (fun h=>?_) (fun h=>?_)
          ·try simp only [bz]at h
           refine W.rt ?_
           have ll_112:Db.length=3:=rfl
           first | omega | decide
          ·try simp only [bz]at h
           refine W.if (fun h=>?_) (fun h=>?_)
           ·try simp only [bz]at h
            refine W.rt ?_
            have ll_113:Dc.length=3:=rfl
            first | omega | decide
           ·try simp only [bz]at h
            refine W.if (fun h=>?_) (fun h=>?_)
            ·try simp only [bz]at h
             refine W.rt ?_
             have ll_114:EH.length=2:=rfl
             first | omega | decide
            ·try simp only [bz]at h
             refine W.if (fun h=>?_) (fun h=>?_)
             ·try simp only [bz]at h
              refine W.rt ?_
              have ll_115:H7.length=1:=rfl
              first | omega | decide
             ·try simp only [bz]at h
              refine W.if (fun h=>?_) (fun h=>?_)
              ·try simp only [bz]at h
               refine W.rt ?_
               have ll_116:Dd.length=3:=rfl
               first | omega | decide
              ·try simp only [bz]at h
               refine W.if (fun h=>?_) (fun h=>?_)
               ·try simp only [bz]at h
                refine W.rt ?_
                have ll_117:H8.length=1:=rfl
                first | omega | decide
               ·try simp only [bz]at h
                refine W.if (fun h=>?_) (fun h=>?_)
                ·try simp only [bz]at h
                 refine W.rt ?_
                 have ll_118:H9.length=1:=rfl
                 first | omega | decide
                ·try simp only [bz]at h
                 refine W.if (fun h=>?_) (fun h=>?_)
                 ·try simp only [bz]at h
                  unfold AL
                  refine W.if (fun h=>?_) (fun h=>?_)
                  ·try simp only [bz]at h
                   refine W.rt ?_
                   first | omega | decide
                  ·try simp only [bz]at h
                   refine W.rt ?_
                   have ll_119:B2.length=2:=rfl
                   first | omega | decide
                 ·try simp only [bz]at h
                  unfold AL
                  refine W.if (fun h=>?_) (fun h=>?_)
                  ·try simp only [bz]at h
                   refine W.rt ?_
                   first | omega | decide
                  ·try simp only [bz]at h
                   refine W.rt ?_
                   have ll_120:B2.length=2:=rfl
                   first | omega | decide
      ·try simp only [bz]at h
       unfold C8
       try simp only [jn]
       refine W.if (fun h=>?_) (fun h=>?_)
       ·try simp only [bz]at h
        refine W.rt ?_
        have ll_121:UI.length=1:=rfl
        first | omega | decide
       ·try simp only [bz]at h
        refine W.if (fun h=>?_) (fun h=>?_)
        ·try simp only [bz]at h
         refine W.rt ?_
         have ll_122:MF.length=2:=rfl
         first | omega | decide
        ·try simp only [bz]at h
         refine W.if (fun h=>?_) (fun h=>?_)
         ·try simp only [bz]at h
          unfold BD
          try simp only [jn]
          refine W.if (fun h=>?_) (fun h=>?_)
          ·try simp only [bz]at h
           refine W.rt ?_
           have ll_123:Db.length=3:=rfl
           first | omega | decide
          ·try simp only [bz]at h
           refine W.if (fun h=>?_) (fun h=>?_)
           ·try simp only [bz]at h
            refine W.rt ?_
            have ll_124:Dc.length=3:=rfl
            first | omega | decide
           ·try simp only [bz]at h
            refine W.if (fun h=>?_) (fun h=>?_)
            ·try simp only [bz]at h
             refine W.rt ?_
             have ll_125:EH.length=2:=rfl
             first | omega | decide
            ·try simp only [bz]at h
             refine W.if (fun h=>?_) (fun h=>?_)
             ·try simp only [bz]at h
              refine W.rt ?_
              have ll_126:H7.length=1:=rfl
              first | omega | decide
             ·try simp only [bz]at h
              refine W.if (fun h=>?_) (fun h=>?_)
              ·try simp only [bz]at h
               refine W.rt ?_
               have ll_127:Dd.length=3:=rfl
               first | omega | decide
              ·try simp only [bz]at h
               refine W.if (fun h=>?_) (fun h=>?_)
               ·try simp only [bz]at h
                refine W.rt ?_
                have ll_128:H8.length=1:=rfl
                first | omega | decide
               ·try simp only [bz]at h
                refine W.if (fun h=>?_) (fun h=>?_)
                ·try simp only [bz]at h
                 refine W.rt ?_
                 have ll_129:H9.length=1:=rfl
                 first | omega | decide
                ·try simp only [bz]at h
                 refine W.if (fun h=>?_) (fun h=>?_)
                 ·try simp only [bz]at h
                  unfold AL
                  refine W.if (fun h=>?_) (fun h=>?_)
                  ·try simp only [bz]at h
                   refine W.rt ?_
                   first | omega | decide
                  ·try simp only [bz]at h
                   refine W.rt ?_
                   have ll_130:B2.length=2:=rfl
                   first | omega | decide
                 ·try simp only [bz]at h
                  unfold AL
                  refine W.if (fun h=>?_) (fun h=>?_)
                  ·try simp only [bz]at h
                   refine W.rt ?_
                   first | omega | decide
                  ·try simp only [bz]at h
                   refine W.rt ?_
                   have ll_131:B2.length=2:=rfl
                   first | omega | decide
         ·try simp only [bz]at h
          unfold BD
          try simp only [jn]
          refine W.if (fun h=>?_) (fun h=>?_)
          ·try simp only [bz]at h
           refine W.rt ?_
           have ll_132:Db.length=3:=rfl
           first | omega | decide
          ·try simp only [bz]at h
           refine W.if (fun h=>?_) (fun h=>?_)
           ·try simp only [bz]at h
            refine W.rt ?_
            have ll_133:Dc.length=3:=rfl
            first | omega | decide
           ·try simp only [bz]at h
            refine W.if (fun h=>?_) (fun h=>?_)
            ·try simp only [bz]at h
             refine W.rt ?_
             have ll_134:EH.length=2:=rfl
             first | omega | decide
            ·try simp only [bz]at h
             refine W.if (fun h=>?_) (fun h=>?_)
             ·try simp only [bz]at h
              refine W.rt ?_
              have ll_135:H7.length=1:=rfl
              first | omega | decide
             ·try simp only [bz]at h
              refine W.if (fun h=>?_) (fun h=>?_)
              ·try simp only [bz]at h
               refine W.rt ?_
               have ll_136:Dd.length=3:=rfl
               first | omega | decide
              ·try simp only [bz]at h
               refine W.if (fun h=>?_) (fun h=>?_)
               ·try simp only [bz]at h
                refine W.rt ?_
                have ll_137:H8.length=1:=rfl
                first | omega | decide
               ·try simp only [bz]at h
                refine W.if (fun h=>?_) (fun h=>?_)
                ·try simp only [bz]at h
                 refine W.rt ?_
                 have ll_138:H9.length=1:=rfl
                 first | omega | decide
                ·try simp only [bz]at h
                 refine W.if (fun h=>?_) (fun h=>?_)
                 ·try simp only [bz]at h
                  unfold AL
                  refine W.if (fun h=>?_) (fun h=>?_)
                  ·try simp only [bz]at h
                   refine W.rt ?_
                   first | omega | decide
                  ·try simp only [bz]at h
                   refine W.rt ?_
                   have ll_139:B2.length=2:=rfl
                   first | omega | decide
                 ·try simp only [bz]at h
                  unfold AL
                  refine W.if (fun h=>?_) (fun h=>?_)
                  ·try simp only [bz]at h
                   refine W.rt ?_
                   first | omega | decide
                  ·try simp only [bz]at h
                   refine W.rt ?_
                   have ll_140:B2.length=2:=rfl
                   first | omega | decide
theorem Ns {a0:Int}:W (Hd a0) (fun r=>True):=by
 unfold Hd
 refine W.lt fun b1 bb_1=>W.rt trivial
theorem PP {a0:Int}:W (ML a0) (fun r=>True):=by
 unfold ML
 exact W.if (fun _=>W.rt trivial) (fun _=>W.if (fun _=>W.rt trivial) (fun _=>W.if (fun _=>W.rt trivial) (fun _=>W.rt trivial)))
theorem mB {a0:A6 (Int)}:W (QQ a0) (fun r=>True):=by
 unfold QQ
 try simp only [jn]
 have ll_1:a0.l.length=6:=rfl
 refine W.bd (W.idx (by omega)) fun e1 q_e1=>W.re q_e1.2.2 ?_
 refine W.it (fun(v:Int×Bs)=>0≤v.1∧(v.1≤(5:Int)∨v.1≤0)) (fun v=>((5:Int) - v.1).toNat) ?_ ?_ (fun v hv=>?_)
 ·(try dsimp only);first | omega | (simp;omega) | (and_intros<;>first | omega | assumption | (simp;omega) | simp)
 ·(try dsimp only);first | omega | (simp;omega) | (and_intros<;>first | omega | assumption | (simp;omega) | simp)
 ·obtain⟨i_t4_8,b3_9⟩:=v
  replace hv:0≤i_t4_8∧(i_t4_8≤(5:Int)∨i_t4_8≤0):=hv
  show W (KZ a0 i_t4_8 b3_9) _
  unfold KZ
  refine W.if (fun h=>?_) (fun _=>W.ex (W.rt trivial))
  try simp only [bz]at h
  refine W.bd (W.idx (by have ww_2:Ac (i_t4_8+(1:Int))=i_t4_8+(1:Int):=Af (by omega) (by omega);omega)) fun e13 q_e13=>W.re q_e13.2.2 ?_
  have ll_3:b3_9.Color.l.length=5:=rfl
  refine W.bd (W.idx (by omega)) fun e15 _=>W.bd (W.idx (by omega)) (fun e16 _=>?_)
  have ww_4:Ac (i_t4_8+(1:Int))=i_t4_8+(1:Int):=Af (by omega) (by omega)
  exact W.nx (by(try dsimp only);first | omega | (and_intros<;>first | omega | assumption) | (simp;omega)) (by(try dsimp only);omega)
theorem mC {a0:A1}:W (QR a0) (fun r=>True):=by
 unfold QR
 refine W.lt fun b1 bb_1=>W.rt trivial
theorem mD {a0:List (A1)} {a1:List UInt8} (k_a0:B5 176 Cy a0):W (QS a0 a1) (fun r=>True):=by
 unfold QS
 try simp only [jn]
 have:=AY k_a0
 refine W.it (fun(v:Int)=>0≤v∧(v≤(a0.length:Int)∨v≤0)) (fun v=>((a0.length:Int) - v).toNat) (by omega) (by omega) (fun i_t5_3 hv=>?_)
 unfold UL
 refine W.if (fun h=>?_) (fun _=>W.ex (W.rt trivial))
 try simp only [bz]at h
 refine W.bd (W.idx (by omega)) fun e7 _=>W.if (fun _=>W.ex (W.rt trivial)) (fun h=>?_)
 try simp only [bz]at h
 have ww_1:Ac (i_t5_3+(1:Int))=i_t5_3+(1:Int):=Af (by omega) (by omega)
 exact W.nx (by(try dsimp only);first | omega | (and_intros<;>first | omega | assumption) | (simp;omega)) (by(try dsimp only);omega)
theorem jd {a0:List (A1)} {a1:List UInt8} (k_a0:B5 176 Cy a0):W (N5 a0 a1) (fun r=>True):=by
 unfold N5
 try simp only [jn]
 have:=AY k_a0
 refine W.it (fun(v:Int)=>0≤v∧(v≤(a0.length:Int)∨v≤0)) (fun v=>((a0.length:Int) - v).toNat) (by omega) (by omega) (fun i_t5_3 hv=>?_)
 unfold QT
 refine W.if (fun h=>?_) (fun _=>W.ex (W.rt trivial))
 try simp only [bz]at h
 refine W.bd (W.idx (by omega)) fun e7 _=>W.gb (fun gg_1=>by try simp only [bz]at gg_1;exact W.idx (by omega)) (fun e8 _=>?_)
 refine W.lt fun b9 bb_2=>W.if (fun _=>W.ex (W.rt trivial)) (fun h=>?_)
 try simp only [bb_2,bz]at h
 have ww_3:Ac (i_t5_3+(1:Int))=i_t5_3+(1:Int):=Af (by omega) (by omega)
 exact W.nx (by(try dsimp only);first | omega | (and_intros<;>first | omega | assumption) | (simp;omega)) (by(try dsimp only);omega)
theorem CO {a0:Int} {a1:Int} {a2:Int}:W (DT a0 a1 a2) (fun r=>True):=by
 unfold DT
 refine W.lt fun b1 bb_1=>W.rt trivial
theorem je {a0:A6 (Int)}:W (N6 a0) (fun r=>True):=by
 unfold N6
 try simp only [jn]
 refine W.it (fun(v:Int)=>0≤v∧(v≤(6:Int)∨v≤0)) (fun v=>((6:Int) - v).toNat) (by omega) (by omega) (fun i_t3_3 hv=>?_)
 unfold QU
 refine W.if (fun h=>?_) (fun _=>W.ex (W.rt trivial))
 try simp only [bz]at h
 have ll_1:a0.l.length=6:=rfl
 refine W.bd (W.idx (by omega)) fun e7 q_e7=>W.re q_e7.2.2 ?_
 refine W.gb (fun gg_2=>by try simp only [bz]at gg_2;exact W.idx (by omega)) (fun e9 _=>?_)
 refine W.gb (fun gg_3=>by try simp only [bz]at gg_3;exact W.idx (by omega)) (fun e10 _=>?_)
 refine W.lt fun b11 bb_4=>W.if (fun _=>W.ex (W.rt trivial)) (fun h=>?_)
 try simp only [bb_4,bz]at h
 have ww_5:Ac (i_t3_3+(1:Int))=i_t3_3+(1:Int):=Af (by omega) (by omega)
 exact W.nx (by(try dsimp only);first | omega | (and_intros<;>first | omega | assumption) | (simp;omega)) (by(try dsimp only);omega)
theorem jf {a0:Ao} {a1:Int} (k_a0:Bk a0):W (N7 a0 a1) (fun r=> -1≤r∧r<a0.Objects.length):=by
 unfold N7
 try simp only [jn]
 have:=AY (Ek k_a0)
 refine W.it (fun(v:Int)=>0≤v∧(v≤(a0.Objects.length:Int)∨v≤0)) (fun v=>((a0.Objects.length:Int) - v).toNat) (by omega) (by omega) (fun i_t5_3 hv=>?_)
 unfold QW
 refine W.if (fun h=>?_) (fun h=>?_)
 ·try simp only [bz]at h
  refine W.bd (W.idx (by omega)) fun e7 _=>W.if (fun h=>?_) (fun h=>?_)
  ·try simp only [bz]at h
   refine W.ex ?_
   try dsimp only [Sum.elim_inl,Sum.elim_inr]
   refine W.rt ?_
   first | omega | decide
  ·try simp only [bz]at h
   have ww_1:Ac (i_t5_3+(1:Int))=i_t5_3+(1:Int):=Af (by omega) (by omega)
   exact W.nx (by(try dsimp only);first | omega | (and_intros<;>first | omega | assumption) | (simp;omega)) (by(try dsimp only);omega)
 ·try simp only [bz]at h
  refine W.ex ?_
  try dsimp only [Sum.elim_inl,Sum.elim_inr]
  unfold QV
  refine W.rt ?_
  first | omega | decide
end Go.PL
