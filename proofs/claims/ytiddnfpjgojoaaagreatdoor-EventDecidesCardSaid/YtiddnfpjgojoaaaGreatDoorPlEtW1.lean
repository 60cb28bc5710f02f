/- Functions that answer: proofs. -/
import Derived.Test.YtiddnfpjgojoaaaGreatDoorPlEdB
import Derived.Test.YtiddnfpjgojoaaaGreatDoorPlEdF1
import Derived.Test.YtiddnfpjgojoaaaGreatDoorPlEtL
namespace Go.PL
open Go
set_option maxRecDepth 100000
set_option linter.all false
set_option maxHeartbeats 2000000
theorem mi {a0:Int}:W (QK a0) (fun r=>r.length≤5):=by
 unfold QK
 try simp only [jn]
 refine W.if (fun h=>?_) (fun h=>?_)
 ·try simp only [bz]at h
  unfold C3
  try simp only [jn]
  refine W.if (fun h=>?_) (fun h=>?_)
  ·try simp only [bz]at h
   refine W.rt ?_
   have ll_1:UA.length=1:=rfl
   first | assumption | omega | (simp only [bz];omega) | (simp only [bz];intros;omega) | (intros;simp only [bz]at *;omega) | exact⟨by simp,by simp⟩ | decide | simp_all
  ·try simp only [bz]at h
   refine W.if (fun h=>?_) (fun h=>?_)
   ·try simp only [bz]at h
    refine W.rt ?_
    have ll_2:Mv.length=2:=rfl
    first | assumption | omega | (simp only [bz];omega) | (simp only [bz];intros;omega) | (intros;simp only [bz]at *;omega) | exact⟨by simp,by simp⟩ | decide | simp_all
   ·try simp only [bz]at h
    refine W.if (fun h=>?_) (fun h=>?_)
    ·try simp only [bz]at h
     unfold BC
     try simp only [jn]
     refine W.if (fun h=>?_) (fun h=>?_)
     ·try simp only [bz]at h
      refine W.rt ?_
      have ll_3:C7.length=3:=rfl
      first | assumption | omega | (simp only [bz];omega) | (simp only [bz];intros;omega) | (intros;simp only [bz]at *;omega) | exact⟨by simp,by simp⟩ | decide | simp_all
     ·try simp only [bz]at h
      refine W.if (fun h=>?_) (fun h=>?_)
      ·try simp only [bz]at h
       refine W.rt ?_
       have ll_4:C8.length=3:=rfl
       first | assumption | omega | (simp only [bz];omega) | (simp only [bz];intros;omega) | (intros;simp only [bz]at *;omega) | exact⟨by simp,by simp⟩ | decide | simp_all
      ·try simp only [bz]at h
       refine W.if (fun h=>?_) (fun h=>?_)
       ·try simp only [bz]at h
        refine W.rt ?_
        have ll_5:EG.length=2:=rfl
        first | assumption | omega | (simp only [bz];omega) | (simp only [bz];intros;omega) | (intros;simp only [bz]at *;omega) | exact⟨by simp,by simp⟩ | decide | simp_all
       ·try simp only [bz]at h
        refine W.if (fun h=>?_) (fun h=>?_)
        ·try simp only [bz]at h
         refine W.rt ?_
         have ll_6:HW.length=1:=rfl
         first | assumption | omega | (simp only [bz];omega) | (simp only [bz];intros;omega) | (intros;simp only [bz]at *;omega) | exact⟨by simp,by simp⟩ | decide | simp_all
        ·try simp only [bz]at h
         refine W.if (fun h=>?_) (fun h=>?_)
         ·try simp only [bz]at h
          refine W.rt ?_
          have ll_7:C9.length=3:=rfl
          first | assumption | omega | (simp only [bz];omega) | (simp only [bz];intros;omega) | (intros;simp only [bz]at *;omega) | exact⟨by simp,by simp⟩ | decide | simp_all
         ·try simp only [bz]at h
          refine W.if (fun h=>?_) (fun h=>?_)
          ·try simp only [bz]at h
           refine W.rt ?_
           have ll_8:HX.length=1:=rfl
           first | assumption | omega | (simp only [bz];omega) | (simp only [bz];intros;omega) | (intros;simp only [bz]at *;omega) | exact⟨by simp,by simp⟩ | decide | simp_all
          ·try simp only [bz]at h
           refine W.if (fun h=>?_) (fun h=>?_)
           ·try simp only [bz]at h
            refine W.rt ?_
            have ll_9:HY.length=1:=rfl
            first | assumption | omega | (simp only [bz];omega) | (simp only [bz];intros;omega) | (intros;simp only [bz]at *;omega) | exact⟨by simp,by simp⟩ | decide | simp_all
           ·try simp only [bz]at h
            refine W.if (fun h=>?_) (fun h=>?_)
            ·try simp only [bz]at h
             unfold AK
             refine W.if (fun h=>?_) (fun h=>?_)
             ·try simp only [bz]at h
              refine W.rt ?_
              first | assumption | omega | (simp only [bz];omega) | (simp only [bz];intros;omega) | (intros;simp only [bz]at *;omega) | exact⟨by simp,by simp⟩ | decide | simp_all
             ·try simp only [bz]at h
              refine W.rt ?_
              have ll_10:B0.length=2:=rfl
              first | assumption | omega | (simp only [bz];omega) | (simp only [bz];intros;omega) | (intros;simp only [bz]at *;omega) | exact⟨by simp,by simp⟩ | decide | simp_all
            ·try simp only [bz]at h
             unfold AK
             refine W.if (fun h=>?_) (fun h=>?_)
             ·try simp only [bz]at h
              refine W.rt ?_
              first | assumption | omega | (simp only [bz];omega) | (simp only [bz];intros;omega) | (intros;simp only [bz]at *;omega) | exact⟨by simp,by simp⟩ | decide | simp_all
             ·try simp only [bz]at h
              refine W.rt ?_
              have ll_11:B0.length=2:=rfl
              first | assumption | omega | (simp only [bz];omega) | (simp only [bz];intros;omega) | (intros;simp only [bz]at *;omega) | exact⟨by simp,by simp⟩ | decide | simp_all
    ·try simp only [bz]at h
     unfold BC
     try simp only [jn]
     refine W.if (fun h=>?_) (fun h=>?_)
     ·try simp only [bz]at h
      refine W.rt ?_
      have ll_12:C7.length=3:=rfl
      first | assumption | omega | (simp only [bz];omega) | (simp only [bz];intros;omega) | (intros;simp only [bz]at *;omega) | exact⟨by simp,by simp⟩ | decide | simp_all
     ·try simp only [bz]at h
      refine W.if (fun h=>?_) (fun h=>?_)
      ·try simp only [bz]at h
       refine W.rt ?_
       have ll_13:C8.length=3:=rfl
       first | assumption | omega | (simp only [bz];omega) | (simp only [bz];intros;omega) | (intros;simp only [bz]at *;omega) | exact⟨by simp,by simp⟩ | decide | simp_all
      ·try simp only [bz]at h
       refine W.if (fun h=>?_) (fun h=>?_)
       ·try simp only [bz]at h
        refine W.rt ?_
        have ll_14:EG.length=2:=rfl
        first | assumption | omega | (simp only [bz];omega) | (simp only [bz];intros;omega) | (intros;simp only [bz]at *;omega) | exact⟨by simp,by simp⟩ | decide | simp_all
       ·try simp only [bz]at h
        refine W.if (fun h=>?_) (fun h=>?_)
        ·try simp only [bz]at h
         refine W.rt ?_
         have ll_15:HW.length=1:=rfl
         first | assumption | omega | (simp only [bz];omega) | (simp only [bz];intros;omega) | (intros;simp only [bz]at *;omega) | exact⟨by simp,by simp⟩ | decide | simp_all
        ·try simp only [bz]at h
         refine W.if (fun h=>?_) (fun h=>?_)
         ·try simp only [bz]at h
          refine W.rt ?_
          have ll_16:C9.length=3:=rfl
          first | assumption | omega | (simp only [bz];omega) | (simp only [bz];intros;omega) | (intros;simp only [bz]at *;omega) | exact⟨by simp,by simp⟩ | decide | simp_all
         ·try simp only [bz]at h
          refine W.if (fun h=>?_) (fun h=>?_)
          ·try simp only [bz]at h
           refine W.rt ?_
           have ll_17:HX.length=1:=rfl
           first | assumption | omega | (simp only [bz];omega) | (simp only [bz];intros;omega) | (intros;simp only [bz]at *;omega) | exact⟨by simp,by simp⟩ | decide | simp_all
          ·try simp only [bz]at h
           refine W.if (fun h=>?_) (fun h=>?_)
           ·try simp only [bz]at h
            refine W.rt ?_
            have ll_18:HY.length=1:=rfl
            first | assumption | omega | (simp only [bz];omega) | (simp only [bz];intros;omega) | (intros;simp only [bz]at *;omega) | exact⟨by simp,by simp⟩ | decide | simp_all
           ·try simp only [bz]at h
            refine W.if (fun h=>?_) (fun h=>?_)
            ·try simp only [bz]at h
             unfold AK
             refine W.if (fun h=>?_) (fun h=>?_)
             ·try simp only [bz]at h
              refine W.rt ?_
              first | assumption | omega | (simp only [bz];omega) | (simp only [bz];intros;omega) | (intros;simp only [bz]at *;omega) | exact⟨by simp,by simp⟩ | decide | simp_all
             ·try simp only [bz]at h
              refine W.rt ?_
              have ll_19:B0.length=2:=rfl
              first | assumption | omega | (simp only [bz];omega) | (simp only [bz];intros;omega) | (intros;simp only [bz]at *;omega) | exact⟨by simp,by simp⟩ | decide | simp_all
            ·try simp only [bz]at h
             unfold AK
             refine W.if (fun h=>?_) (fun h=>?_)
             ·try simp only [bz]at h
              refine W.rt ?_
              first | assumption | omega | (simp only [bz];omega) | (simp only [bz];intros;omega) | (intros;simp only [bz]at *;omega) | exact⟨by simp,by simp⟩ | decide | simp_all
             ·try simp only [bz]at h
              refine W.rt ?_
              have ll_20:B0.length=2:=rfl
              first | assumption | omega | (simp only [bz];omega) | (simp only [bz];intros;omega) | (intros;simp only [bz]at *;omega) | exact⟨by simp,by simp⟩ | decide | simp_all
 ·try simp only [bz]at h
  refine W.if (fun h=>?_) (fun h=>?_)
  ·try simp only [bz]at h
   unfold C3
   try simp only [jn]
   refine W.if (fun h=>?_) (fun h=>?_)
   ·try simp only [bz]at h
    refine W.rt ?_
    have ll_21:UA.length=1:=rfl
    first | assumption | omega | (simp only [bz];omega) | (simp only [bz];intros;omega) | (intros;simp only [bz]at *;omega) | exact⟨by simp,by simp⟩ | decide | simp_all
   ·try simp only [bz]at h
    refine W.if (fun h=>?_) (fun h=>?_)
    ·try simp only [bz]at h
     refine W.rt ?_
     have ll_22:Mv.length=2:=rfl
     first | assumption | omega | (simp only [bz];omega) | (simp only [bz];intros;omega) | (intros;simp only [bz]at *;omega) | exact⟨by simp,by simp⟩ | decide | simp_all
    ·try simp only [bz]at h
     refine W.if (fun h=>?_) (fun h=>?_)
     ·try simp only [bz]at h
      unfold BC
      try simp only [jn]
      refine W.if (fun h=>?_) (fun h=>?_)
      ·try simp only [bz]at h
       refine W.rt ?_
       have ll_23:C7.length=3:=rfl
       first | assumption | omega | (simp only [bz];omega) | (simp only [bz];intros;omega) | (intros;simp only [bz]at *;omega) | exact⟨by simp,by simp⟩ | decide | simp_all
      ·try simp only [bz]at h
       refine W.if (fun h=>?_) (fun h=>?_)
       ·try simp only [bz]at h
        refine W.rt ?_
        have ll_24:C8.length=3:=rfl
        first | assumption | omega | (simp only [bz];omega) | (simp only [bz];intros;omega) | (intros;simp only [bz]at *;omega) | exact⟨by simp,by simp⟩ | decide | simp_all
       ·try simp only [bz]at h
        refine W.if (fun h=>?_) (fun h=>?_)
        ·try simp only [bz]at h
         refine W.rt ?_
         have ll_25:EG.length=2:=rfl
         first | assumption | omega | (simp only [bz];omega) | (simp only [bz];intros;omega) | (intros;simp only [bz]at *;omega) | exact⟨by simp,by simp⟩ | decide | simp_all
        ·try simp only [bz]at h
         refine W.if (fun h=>?_) (fun h=>?_)
         ·try simp only [bz]at h
          refine W.rt ?_
          have ll_26:HW.length=1:=rfl
          first | assumption | omega | (simp only [bz];omega) | (simp only [bz];intros;omega) | (intros;simp only [bz]at *;omega) | exact⟨by simp,by simp⟩ | decide | simp_all
         ·try simp only [bz]at h
          refine W.if (fun h=>?_) (fun h=>?_)
          ·try simp only [bz]at h
           refine W.rt ?_
           have ll_27:C9.length=3:=rfl
           first | assumption | omega | (simp only [bz];omega) | (simp only [bz];intros;omega) | (intros;simp only [bz]at *;omega) | exact⟨by simp,by simp⟩ | decide | simp_all
          ·try simp only [bz]at h
           refine W.if (fun h=>?_) (fun h=>?_)
           ·try simp only [bz]at h
            refine W.rt ?_
            have ll_28:HX.length=1:=rfl
            first | assumption | omega | (simp only [bz];omega) | (simp only [bz];intros;omega) | (intros;simp only [bz]at *;omega) | exact⟨by simp,by simp⟩ | decide | simp_all
           ·try simp only [bz]at h
            refine W.if (fun h=>?_) (fun h=>?_)
            ·try simp only [bz]at h
             refine W.rt ?_
             have ll_29:HY.length=1:=rfl
             first | assumption | omega | (simp only [bz];omega) | (simp only [bz];intros;omega) | (intros;simp only [bz]at *;omega) | exact⟨by simp,by simp⟩ | decide | simp_all
            ·try simp only [bz]at h
             refine W.if (fun h=>?_) (fun h=>?_)
             ·try simp only [bz]at h
              unfold AK
              refine W.if (fun h=>?_) (fun h=>?_)
              ·try simp only [bz]at h
               refine W.rt ?_
               first | assumption | omega | (simp only [bz];omega) | (simp only [bz];intros;omega) | (intros;simp only [bz]at *;omega) | exact⟨by simp,by simp⟩ | decide | simp_all
              ·try simp only [bz]at h
               refine W.rt ?_
               have ll_30:B0.length=2:=rfl
               first | assumption | omega | (simp only [bz];omega) | (simp only [bz];intros;omega) | (intros;simp only [bz]at *;omega) | exact⟨by simp,by simp⟩ | decide | simp_all
             ·try simp only [bz]at h
              unfold AK
              refine W.if (fun h=>?_) (fun h=>?_)
              ·try simp only [bz]at h
               refine W.rt ?_
               first | assumption | omega | (simp only [bz];omega) | (simp only [bz];intros;omega) | (intros;simp only [bz]at *;omega) | exact⟨by simp,by simp⟩ | decide | simp_all
              ·try simp only [bz]at h
               refine W.rt ?_
               have ll_31:B0.length=2:=rfl
               first | assumption | omega | (simp only [bz];omega) | (simp only [bz];intros;omega) | (intros;simp only [bz]at *;omega) | exact⟨by simp,by simp⟩ | decide | simp_all
     ·try simp only [bz]at h
      unfold BC
      try simp only [jn]
      refine W.if (fun h=>?_) (fun h=>?_)
      ·try simp only [bz]at h
       refine W.rt ?_
       have ll_32:C7.length=3:=rfl
       first | assumption | omega | (simp only [bz];omega) | (simp only [bz];intros;omega) | (intros;simp only [bz]at *;omega) | exact⟨by simp,by simp⟩ | decide | simp_all
      ·try simp only [bz]at h
       refine W.if (fun h=>?_) (fun h=>?_)
       ·try simp only [bz]at h
        refine W.rt ?_
        have ll_33:C8.length=3:=rfl
        first | assumption | omega | (simp only [bz];omega) | (simp only [bz];intros;omega) | (intros;simp only [bz]at *;omega) | exact⟨by simp,by simp⟩ | decide | simp_all
       ·try simp only [bz]at h
        refine W.if (fun h=>?_) (fun h=>?_)
        ·try simp only [bz]at h
         refine W.rt ?_
         have ll_34:EG.length=2:=rfl
         first | assumption | omega | (simp only [bz];omega) | (simp only [bz];intros;omega) | (intros;simp only [bz]at *;omega) | exact⟨by simp,by simp⟩ | decide | simp_all
        ·try simp only [bz]at h
         refine W.if (fun h=>?_) (fun h=>?_)
         ·try simp only [bz]at h
          refine W.rt ?_
          have ll_35:HW.length=1:=rfl
          first | assumption | omega | (simp only [bz];omega) | (simp only [bz];intros;omega) | (intros;simp only [bz]at *;omega) | exact⟨by simp,by simp⟩ | decide | simp_all
         ·try simp only [bz]at h
          refine W.if (fun h=>?_) (fun h=>?_)
          ·try simp only [bz]at h
           refine W.rt ?_
           have ll_36:C9.length=3:=rfl
           first | assumption | omega | (simp only [bz];omega) | (simp only [bz];intros;omega) | (intros;simp only [bz]at *;omega) | exact⟨by simp,by simp⟩ | decide | simp_all
          ·try simp only [bz]at h
           refine W.if (fun h=>?_) (fun h=>?_)
           ·try simp only [bz]at h
            refine W.rt ?_
            have ll_37:HX.length=1:=rfl
            first | assumption | omega | (simp only [bz];omega) | (simp only [bz];intros;omega) | (intros;simp only [bz]at *;omega) | exact⟨by simp,by simp⟩ | decide | simp_all
           ·try simp only [bz]at h
            refine W.if (fun h=>?_) (fun h=>?_)
            ·try simp only [bz]at h
             refine W.rt ?_
             have ll_38:HY.length=1:=rfl
             first | assumption | omega | (simp only [bz];omega) | (simp only [bz];intros;omega) | (intros;simp only [bz]at *;omega) | exact⟨by simp,by simp⟩ | decide | simp_all
            ·try simp only [bz]at h
             refine W.if (fun h=>?_) (fun h=>?_)
             ·try simp only [bz]at h
              unfold AK
              refine W.if (fun h=>?_) (fun h=>?_)
              ·try simp only [bz]at h
               refine W.rt ?_
               first | assumption | omega | (simp only [bz];omega) | (simp only [bz];intros;omega) | (intros;simp only [bz]at *;omega) | exact⟨by simp,by simp⟩ | decide | simp_all
              ·try simp only [bz]at h
               refine W.rt ?_
               have ll_39:B0.length=2:=rfl
               first | assumption | omega | (simp only [bz];omega) | (simp only [bz];intros;omega) | (intros;simp only [bz]at *;omega) | exact⟨by simp,by simp⟩ | decide | simp_all
             ·try simp only [bz]at h
              unfold AK
              refine W.if (fun h=>?_) (fun h=>?_)
              ·try simp only [bz]at h
               refine W.rt ?_
               first | assumption | omega | (simp only [bz];omega) | (simp only [bz];intros;omega) | (intros;simp only [bz]at *;omega) | exact⟨by simp,by simp⟩ | decide | simp_all
              ·try simp only [bz]at h
               refine W.rt ?_
               have ll_40:B0.length=2:=rfl
               first | assumption | omega | (simp only [bz];omega) | (simp only [bz];intros;omega) | (intros;simp only [bz]at *;omega) | exact⟨by simp,by simp⟩ | decide | simp_all
  ·try simp only [bz]at h
   refine W.if (fun h=>?_) (fun h=>?_)
   ·try simp only [bz]at h
    unfold C3
    try simp only [jn]
    refine W.if (fun h=>?_) (fun h=>?_)
    ·try simp only [bz]at h
     refine W.rt ?_
     have ll_41:UA.length=1:=rfl
     first | assumption | omega | (simp only [bz];omega) | (simp only [bz];intros;omega) | (intros;simp only [bz]at *;omega) | exact⟨by simp,by simp⟩ | decide | simp_all
    ·try simp only [bz]at h
     refine W.if (fun h=>?_) (fun h=>?_)
     ·try simp only [bz]at h
      refine W.rt ?_
      have ll_42:Mv.length=2:=rfl
      first | assumption | omega | (simp only [bz];omega) | (simp only [bz];intros;omega) | (intros;simp only [bz]at *;omega) | exact⟨by simp,by simp⟩ | decide | simp_all
     ·try simp only [bz]at h
      refine W.if (fun h=>?_) (fun h=>?_)
      ·try simp only [bz]at h
       unfold BC
       try simp only [jn]
       refine W.if (fun h=>?_) (fun h=>?_)
       ·try simp only [bz]at h
        refine W.rt ?_
        have ll_43:C7.length=3:=rfl
        first | assumption | omega | (simp only [bz];omega) | (simp only [bz];intros;omega) | (intros;simp only [bz]at *;omega) | exact⟨by simp,by simp⟩ | decide | simp_all
       ·try simp only [bz]at h
        refine W.if (fun h=>?_) (fun h=>?_)
        ·try simp only [bz]at h
         refine W.rt ?_
         have ll_44:C8.length=3:=rfl
         first | assumption | omega | (simp only [bz];omega) | (simp only [bz];intros;omega) | (intros;simp only [bz]at *;omega) | exact⟨by simp,by simp⟩ | decide | simp_all
        ·try simp only [bz]at h
         refine W.if (fun h=>?_) (fun h=>?_)
         ·try simp only [bz]at h
          refine W.rt ?_
          have ll_45:EG.length=2:=rfl
          first | assumption | omega | (simp only [bz];omega) | (simp only [bz];intros;omega) | (intros;simp only [bz]at *;omega) | exact⟨by simp,by simp⟩ | decide | simp_all
         ·try simp only [bz]at h
          refine W.if (fun h=>?_) (fun h=>?_)
          ·try simp only [bz]at h
           refine W.rt ?_
           have ll_46:HW.length=1:=rfl
           first | assumption | omega | (simp only [bz];omega) | (simp only [bz];intros;omega) | (intros;simp only [bz]at *;omega) | exact⟨by simp,by simp⟩ | decide | simp_all
          ·try simp only [bz]at h
           refine W.if (fun h=>?_) (fun h=>?_)
           ·try simp only [bz]at h
            refine W.rt ?_
            have ll_47:C9.length=3:=rfl
            first | assumption | omega | (simp only [bz];omega) | (simp only [bz];intros;omega) | (intros;simp only [bz]at *;omega) | exact⟨by simp,by simp⟩ | decide | simp_all
           ·try simp only [bz]at h
            refine W.if (fun h=>?_) (fun h=>?_)
            ·try simp only [bz]at h
             refine W.rt ?_
             have ll_48:HX.length=1:=rfl
             first | assumption | omega | (simp only [bz];omega) | (simp only [bz];intros;omega) | (intros;simp only [bz]at *;omega) | exact⟨by simp,by simp⟩ | decide | simp_all
            ·try simp only [bz]at h
             refine W.if (fun h=>?_) (fun h=>?_)
             ·try simp only [bz]at h
              refine W.rt ?_
              have ll_49:HY.length=1:=rfl
              first | assumption | omega | (simp only [bz];omega) | (simp only [bz];intros;omega) | (intros;simp only [bz]at *;omega) | exact⟨by simp,by simp⟩ | decide | simp_all
             ·try simp only [bz]at h
              refine W.if (fun h=>?_) (fun h=>?_)
              ·try simp only [bz]at h
               unfold AK
               refine W.if (fun h=>?_) (fun h=>?_)
               ·try simp only [bz]at h
                refine W.rt ?_
                first | assumption | omega | (simp only [bz];omega) | (simp only [bz];intros;omega) | (intros;simp only [bz]at *;omega) | exact⟨by simp,by simp⟩ | decide | simp_all
               ·try simp only [bz]at h
                refine W.rt ?_
                have ll_50:B0.length=2:=rfl
                first | assumption | omega | (simp only [bz];omega) | (simp only [bz];intros;omega) | (intros;simp only [bz]at *;omega) | exact⟨by simp,by simp⟩ | decide | simp_all
              ·try simp only [bz]at h
               unfold AK
               refine W.if (fun h=>?_) (fun h=>?_)
               ·try simp only [bz]at h
                refine W.rt ?_
                first | assumption | omega | (simp only [bz];omega) | (simp only [bz];intros;omega) | (intros;simp only [bz]at *;omega) | exact⟨by simp,by simp⟩ | decide | simp_all
               ·try simp only [bz]at h
                refine W.rt ?_
                have ll_51:B0.length=2:=rfl
                first | assumption | omega | (simp only [bz];omega) | (simp only [bz];intros;omega) | (intros;simp only [bz]at *;omega) | exact⟨by simp,by simp⟩ | decide | simp_all
      ·try simp only [bz]at h
       unfold BC
       try simp only [jn]
       refine W.if (fun h=>?_) (fun h=>?_)
       ·try simp only [bz]at h
        refine W.rt ?_
        have ll_52:C7.length=3:=rfl
        first | assumption | omega | (simp only [bz];omega) | (simp only [bz];intros;omega) | (intros;simp only [bz]at *;omega) | exact⟨by simp,by simp⟩ | decide | simp_all
       ·try simp only [bz]at h
        refine W.if (fun h=>?_) (fun h=>?_)
        ·try simp only [bz]at h
         refine W.rt ?_
         have ll_53:C8.length=3:=rfl
         first | assumption | omega | (simp only [bz];omega) | (simp only [bz];intros;omega) | (intros;simp only [bz]at *;omega) | exact⟨by simp,by simp⟩ | decide | simp_all
        ·try simp only [bz]at h
         refine W.if (fun h=>?_) (fun h=>?_)
         ·try simp only [bz]at h
          refine W.rt ?_
          have ll_54:EG.length=2:=rfl
          first | assumption | omega | (simp only [bz];omega) | (simp only [bz];intros;omega) | (intros;simp only [bz]at *;omega) | exact⟨by simp,by simp⟩ | decide | simp_all
         ·try simp only [bz]at h
          refine W.if (fun h=>?_) (fun h=>?_)
          ·try simp only [bz]at h
           refine W.rt ?_
           have ll_55:HW.length=1:=rfl
           first | assumption | omega | (simp only [bz];omega) | (simp only [bz];intros;omega) | (intros;simp only [bz]at *;omega) | exact⟨by simp,by simp⟩ | decide | simp_all
          ·try simp only [bz]at h
           refine W.if (fun h=>?_) (fun h=>?_)
           ·try simp only [bz]at h
            refine W.rt ?_
            have ll_56:C9.length=3:=rfl
            first | assumption | omega | (simp only [bz];omega) | (simp only [bz];intros;omega) | (intros;simp only [bz]at *;omega) | exact⟨by simp,by simp⟩ | decide | simp_all
           ·try simp only [bz]at h
            refine W.if (fun h=>?_) (fun h=>?_)
            ·try simp only [bz]at h
             refine W.rt ?_
             have ll_57:HX.length=1:=rfl
             first | assumption | omega | (simp only [bz];omega) | (simp only [bz];intros;omega) | (intros;simp only [bz]at *;omega) | exact⟨by simp,by simp⟩ | decide | simp_all
            ·try simp only [bz]at h
             refine W.if (fun h=>?_) (fun h=>?_)
             ·try simp only [bz]at h
              refine W.rt ?_
              have ll_58:HY.length=1:=rfl
              first | assumption | omega | (simp only [bz];omega) | (simp only [bz];intros;omega) | (intros;simp only [bz]at *;omega) | exact⟨by simp,by simp⟩ | decide | simp_all
             ·try simp only [bz]at h
              refine W.if (fun h=>?_) (fun h=>?_)
              ·try simp only [bz]at h
               unfold AK
               refine W.if (fun h=>?_) (fun h=>?_)
               ·try simp only [bz]at h
                refine W.rt ?_
                first | assumption | omega | (simp only [bz];omega) | (simp only [bz];intros;omega) | (intros;simp only [bz]at *;omega) | exact⟨by simp,by simp⟩ | decide | simp_all
               ·try simp only [bz]at h
                refine W.rt ?_
                have ll_59:B0.length=2:=rfl
                first | assumption | omega | (simp only [bz];omega) | (simp only [bz];intros;omega) | (intros;simp only [bz]at *;omega) | exact⟨by simp,by simp⟩ | decide | simp_all
              ·try simp only [bz]at h
               unfold AK
               refine W.if (fun h=>?_) (fun h=>?_)
               ·try simp only [bz]at h
                refine W.rt ?_
                first | assumption | omega | (simp only [bz];omega) | (simp only [bz];intros;omega) | (intros;simp only [bz]at *;omega) | exact⟨by simp,by simp⟩ | decide | simp_all
               ·try simp only [bz]at h
                refine W.rt ?_
                have ll_60:B0.length=2:=rfl
                first | assumption | omega | (simp only [bz];omega) | (simp only [bz];intros;omega) | (intros;simp only [bz]at *;omega) | exact⟨by simp,by simp⟩ | decide | simp_all
   ·try simp only [bz]at h
    refine W.if (fun h=>?_) (fun h=>?_)
    ·try simp only [bz]at h
     unfold C3
     try simp only [jn]
     refine W.if (fun h=>?_) (fun h=>?_)
     ·try simp only [bz]at h
      refine W.rt ?_
      have ll_61:UA.length=1:=rfl
      first | assumption | omega | (simp only [bz];omega) | (simp only [bz];intros;omega) | (intros;simp only [bz]at *;omega) | exact⟨by simp,by simp⟩ | decide | simp_all
     ·try simp only [bz]at h
      refine W.if (fun h=>?_) (fun h=>?_)
      ·try simp only [bz]at h
       refine W.rt ?_
       have ll_62:Mv.length=2:=rfl
       first | assumption | omega | (simp only [bz];omega) | (simp only [bz];intros;omega) | (intros;simp only [bz]at *;omega) | exact⟨by simp,by simp⟩ | decide | simp_all
      ·try simp only [bz]at h
       refine W.if (fun h=>?_) (fun h=>?_)
       ·try simp only [bz]at h
        unfold BC
        try simp only [jn]
        refine W.if (fun h=>?_) (fun h=>?_)
        ·try simp only [bz]at h
         refine W.rt ?_
         have ll_63:C7.length=3:=rfl
         first | assumption | omega | (simp only [bz];omega) | (simp only [bz];intros;omega) | (intros;simp only [bz]at *;omega) | exact⟨by simp,by simp⟩ | decide | simp_all
        ·try simp only [bz]at h
         refine W.if (fun h=>?_) (fun h=>?_)
         ·try simp only [bz]at h
          refine W.rt ?_
          have ll_64:C8.length=3:=rfl
          first | assumption | omega | (simp only [bz];omega) | (simp only [bz];intros;omega) | (intros;simp only [bz]at *;omega) | exact⟨by simp,by simp⟩ | decide | simp_all
         ·try simp only [bz]at h
          refine W.if (fun h=>?_) (fun h=>?_)
          ·try simp only [bz]at h
           refine W.rt ?_
           have ll_65:EG.length=2:=rfl
           first | assumption | omega | (simp only [bz];omega) | (simp only [bz];intros;omega) | (intros;simp only [bz]at *;omega) | exact⟨by simp,by simp⟩ | decide | simp_all
          ·try simp only [bz]at h
           refine W.if (fun h=>?_) (fun h=>?_)
           ·try simp only [bz]at h
            refine W.rt ?_
            have ll_66:HW.length=1:=rfl
            first | assumption | omega | (simp only [bz];omega) | (simp only [bz];intros;omega) | (intros;simp only [bz]at *;omega) | exact⟨by simp,by simp⟩ | decide | simp_all
           ·try simp only [bz]at h
            refine W.if (fun h=>?_) (fun h=>?_)
            ·try simp only [bz]at h
             refine W.rt ?_
             have ll_67:C9.length=3:=rfl
             first | assumption | omega | (simp only [bz];omega) | (simp only [bz];intros;omega) | (intros;simp only [bz]at *;omega) | exact⟨by simp,by simp⟩ | decide | simp_all
            ·try simp only [bz]at h
             refine W.if (fun h=>?_) (fun h=>?_)
             ·try simp only [bz]at h
              refine W.rt ?_
              have ll_68:HX.length=1:=rfl
              first | assumption | omega | (simp only [bz];omega) | (simp only [bz];intros;omega) | (intros;simp only [bz]at *;omega) | exact⟨by simp,by simp⟩ | decide | simp_all
             ·try simp only [bz]at h
              refine W.if (fun h=>?_) (fun h=>?_)
              ·try simp only [bz]at h
               refine W.rt ?_
               have ll_69:HY.length=1:=rfl
               first | assumption | omega | (simp only [bz];omega) | (simp only [bz];intros;omega) | (intros;simp only [bz]at *;omega) | exact⟨by simp,by simp⟩ | decide | simp_all
              ·try simp only [bz]at h
               refine W.if (fun h=>?_) (fun h=>?_)
               ·try simp only [bz]at h
                unfold AK
                refine W.if (fun h=>?_) (fun h=>?_)
                ·try simp only [bz]at h
                 refine W.rt ?_
                 first | assumption | omega | (simp only [bz];omega) | (simp only [bz];intros;omega) | (intros;simp only [bz]at *;omega) | exact⟨by simp,by simp⟩ | decide | simp_all
                ·try simp only [bz]at h
                 refine W.rt ?_
                 have ll_70:B0.length=2:=rfl
                 first | assumption | omega | (simp only [bz];omega) | (simp only [bz];intros;omega) | (intros;simp only [bz]at *;omega) | exact⟨by simp,by simp⟩ | decide | simp_all
               ·try simp only [bz]at h
                unfold AK
                refine W.if (fun h=>?_) (fun h=>?_)
                ·try simp only [bz]at h
                 refine W.rt ?_
                 first | assumption | omega | (simp only [bz];omega) | (simp only [bz];intros;omega) | (intros;simp only [bz]at *;omega) | exact⟨by simp,by simp⟩ | decide | simp_all
                ·try simp only [bz]at h
                 refine W.rt ?_
                 have ll_71:B0.length=2:=rfl
                 first | assumption | omega | (simp only [bz];omega) | (simp only [bz];intros;omega) | (intros;simp only [bz]at *;omega) | exact⟨by simp,by simp⟩ | decide | simp_all
       ·try simp only [bz]at h
        unfold BC
        try simp only [jn]
        refine W.if (fun h=>?_) (fun h=>?_)
        ·try simp only [bz]at h
         refine W.rt ?_
         have ll_72:C7.length=3:=rfl
         first | assumption | omega | (simp only [bz];omega) | (simp only [bz];intros;omega) | (intros;simp only [bz]at *;omega) | exact⟨by simp,by simp⟩ | decide | simp_all
        ·try simp only [bz]at h
         refine W.if (fun h=>?_) (fun h=>?_)
         ·try simp only [bz]at h
          refine W.rt ?_
          have ll_73:C8.length=3:=rfl
          first | assumption | omega | (simp only [bz];omega) | (simp only [bz];intros;omega) | (intros;simp only [bz]at *;omega) | exact⟨by simp,by simp⟩ | decide | simp_all
         ·try simp only [bz]at h
          refine W.if (fun h=>?_) (fun h=>?_)
          ·try simp only [bz]at h
           refine W.rt ?_
           have ll_74:EG.length=2:=rfl
           first | assumption | omega | (simp only [bz];omega) | (simp only [bz];intros;omega) | (intros;simp only [bz]at *;omega) | exact⟨by simp,by simp⟩ | decide | simp_all
          ·try simp only [bz]at h
           refine W.if (fun h=>?_) (fun h=>?_)
           ·try simp only [bz]at h
            refine W.rt ?_
            have ll_75:HW.length=1:=rfl
            first | assumption | omega | (simp only [bz];omega) | (simp only [bz];intros;omega) | (intros;simp only [bz]at *;omega) | exact⟨by simp,by simp⟩ | decide | simp_all
           ·try simp only [bz]at h
            refine W.if (fun h=>?_) (fun h=>?_)
            ·try simp only [bz]at h
             refine W.rt ?_
             have ll_76:C9.length=3:=rfl
             first | assumption | omega | (simp only [bz];omega) | (simp only [bz];intros;omega) | (intros;simp only [bz]at *;omega) | exact⟨by simp,by simp⟩ | decide | simp_all
            ·try simp only [bz]at h
             refine W.if (fun h=>?_) (fun h=>?_)
             ·try simp only [bz]at h
              refine W.rt ?_
              have ll_77:HX.length=1:=rfl
              first | assumption | omega | (simp only [bz];omega) | (simp only [bz];intros;omega) | (intros;simp only [bz]at *;omega) | exact⟨by simp,by simp⟩ | decide | simp_all
             ·try simp only [bz]at h
              refine W.if (fun h=>?_) (fun h=>?_)
              ·try simp only [bz]at h
               refine W.rt ?_
               have ll_78:HY.length=1:=rfl
               first | assumption | omega | (simp only [bz];omega) | (simp only [bz];intros;omega) | (intros;simp only [bz]at *;omega) | exact⟨by simp,by simp⟩ | decide | simp_all
              ·try simp only [bz]at h
               refine W.if (fun h=>?_) (fun h=>?_)
               ·try simp only [bz]at h
                unfold AK
                refine W.if (fun h=>?_) (fun h=>?_)
                ·try simp only [bz]at h
                 refine W.rt ?_
                 first | assumption | omega | (simp only [bz];omega) | (simp only [bz];intros;omega) | (intros;simp only [bz]at *;omega) | exact⟨by simp,by simp⟩ | decide | simp_all
                ·try simp only [bz]at h
                 refine W.rt ?_
                 have ll_79:B0.length=2:=rfl
                 first | assumption | omega | (simp only [bz];omega) | (simp only [bz];intros;omega) | (intros;simp only [bz]at *;omega) | exact⟨by simp,by simp⟩ | decide | simp_all
               ·try simp only [bz]at h
                unfold AK
                refine W.if (fun h=>?_) (fun h=>?_)
                ·try simp only [bz]at h
                 refine W.rt ?_
                 first | assumption | omega | (simp only [bz];omega) | (simp only [bz];intros;omega) | (intros;simp only [bz]at *;omega) | exact⟨by simp,by simp⟩ | decide | simp_all
                ·try simp only [bz]at h
                 refine W.rt ?_
                 have ll_80:B0.length=2:=rfl
                 first | assumption | omega | (simp only [bz];omega) | (simp only [bz];intros;omega) | (intros;simp only [bz]at *;omega) | exact⟨by simp,by simp⟩ | decide | simp_all
    ·try simp only [bz]at h
     refine W.if (fun h=>?_) (fun h=>?_)
     ·try simp only [bz]at h
      unfold C3
      try simp only [jn]
      refine W.if (fun h=>?_) (fun h=>?_)
      ·try simp only [bz]at h
       refine W.rt ?_
       have ll_81:UA.length=1:=rfl
       first | assumption | omega | (simp only [bz];omega) | (simp only [bz];intros;omega) | (intros;simp only [bz]at *;omega) | exact⟨by simp,by simp⟩ | decide | simp_all
      ·try simp only [bz]at h
       refine W.if (fun h=>?_) (fun h=>?_)
       ·try simp only [bz]at h
        refine W.rt ?_
        have ll_82:Mv.length=2:=rfl
        first | assumption | omega | (simp only [bz];omega) | (simp only [bz];intros;omega) | (intros;simp only [bz]at *;omega) | exact⟨by simp,by simp⟩ | decide | simp_all
       ·try simp only [bz]at h
        refine W.if (fun h=>?_) (fun h=>?_)
        ·try simp only [bz]at h
         unfold BC
         try simp only [jn]
         refine W.if (fun h=>?_) (fun h=>?_)
         ·try simp only [bz]at h
          refine W.rt ?_
          have ll_83:C7.length=3:=rfl
          first | assumption | omega | (simp only [bz];omega) | (simp only [bz];intros;omega) | (intros;simp only [bz]at *;omega) | exact⟨by simp,by simp⟩ | decide | simp_all
         ·try simp only [bz]at h
          refine W.if (fun h=>?_) (fun h=>?_)
          ·try simp only [bz]at h
           refine W.rt ?_
           have ll_84:C8.length=3:=rfl
           first | assumption | omega | (simp only [bz];omega) | (simp only [bz];intros;omega) | (intros;simp only [bz]at *;omega) | exact⟨by simp,by simp⟩ | decide | simp_all
          ·try simp only [bz]at h
           refine W.if (fun h=>?_) (fun h=>?_)
           ·try simp only [bz]at h
            refine W.rt ?_
            have ll_85:EG.length=2:=rfl
            first | assumption | omega | (simp only [bz];omega) | (simp only [bz];intros;omega) | (intros;simp only [bz]at *;omega) | exact⟨by simp,by simp⟩ | decide | simp_all
           ·try simp only [bz]at h
            refine W.if (fun h=>?_) (fun h=>?_)
            ·try simp only [bz]at h
             refine W.rt ?_
             have ll_86:HW.length=1:=rfl
             first | assumption | omega | (simp only [bz];omega) | (simp only [bz];intros;omega) | (intros;simp only [bz]at *;omega) | exact⟨by simp,by simp⟩ | decide | simp_all
            ·try simp only [bz]at h
             refine W.if (fun h=>?_) (fun h=>?_)
             ·try simp only [bz]at h
              refine W.rt ?_
              have ll_87:C9.length=3:=rfl
              first | assumption | omega | (simp only [bz];omega) | (simp only [bz];intros;omega) | (intros;simp only [bz]at *;omega) | exact⟨by simp,by simp⟩ | decide | simp_all
             ·try simp only [bz]at h
              refine W.if (fun h=>?_) (fun h=>?_)
              ·try simp only [bz]at h
               refine W.rt ?_
               have ll_88:HX.length=1:=rfl
               first | assumption | omega | (simp only [bz];omega) | (simp only [bz];intros;omega) | (intros;simp only [bz]at *;omega) | exact⟨by simp,by simp⟩ | decide | simp_all
              ·try simp only [bz]at h
               refine W.if (fun h=>?_) (fun h=>?_)
               ·try simp only [bz]at h
                refine W.rt ?_
                have ll_89:HY.length=1:=rfl
                first | assumption | omega | (simp only [bz];omega) | (simp only [bz];intros;omega) | (intros;simp only [bz]at *;omega) | exact⟨by simp,by simp⟩ | decide | simp_all
               ·try simp only [bz]at h
                refine W.if (fun h=>?_) (fun h=>?_)
                ·try simp only [bz]at h
                 unfold AK
                 refine W.if (fun h=>?_) (fun h=>?_)
                 ·try simp only [bz]at h
                  refine W.rt ?_
                  first | assumption | omega | (simp only [bz];omega) | (simp only [bz];intros;omega) | (intros;simp only [bz]at *;omega) | exact⟨by simp,by simp⟩ | decide | simp_all
                 ·try simp only [bz]at h
                  refine W.rt ?_
                  have ll_90:B0.length=2:=rfl
                  first | assumption | omega | (simp only [bz];omega) | (simp only [bz];intros;omega) | (intros;simp only [bz]at *;omega) | exact⟨by simp,by simp⟩ | decide | simp_all
                ·try simp only [bz]at h
                 unfold AK
                 refine W.if (fun h=>?_) (fun h=>?_)
                 ·try simp only [bz]at h
                  refine W.rt ?_
                  first | assumption | omega | (simp only [bz];omega) | (simp only [bz];intros;omega) | (intros;simp only [bz]at *;omega) | exact⟨by simp,by simp⟩ | decide | simp_all
                 ·try simp only [bz]at h
                  refine W.rt ?_
                  have ll_91:B0.length=2:=rfl
                  first | assumption | omega | (simp only [bz];omega) | (simp only [bz];intros;omega) | (intros;simp only [bz]at *;omega) | exact⟨by simp,by simp⟩ | decide | simp_all
        ·try simp only [bz]at h
         unfold BC
         try simp only [jn]
         refine W.if (fun h=>?_) (fun h=>?_)
         ·try simp only [bz]at h
          refine W.rt ?_
          have ll_92:C7.length=3:=rfl
          first | assumption | omega | (simp only [bz];omega) | (simp only [bz];intros;omega) | (intros;simp only [bz]at *;omega) | exact⟨by simp,by simp⟩ | decide | simp_all
         ·try simp only [bz]at h
          refine W.if (fun h=>?_) (fun h=>?_)
          ·try simp only [bz]at h
           refine W.rt ?_
           have ll_93:C8.length=3:=rfl
           first | assumption | omega | (simp only [bz];omega) | (simp only [bz];intros;omega) | (intros;simp only [bz]at *;omega) | exact⟨by simp,by simp⟩ | decide | simp_all
          ·try simp only [bz]at h
           refine W.if (fun h=>?_) (fun h=>?_)
           ·try simp only [bz]at h
            refine W.rt ?_
            have ll_94:EG.length=2:=rfl
            first | assumption | omega | (simp only [bz];omega) | (simp only [bz];intros;omega) | (intros;simp only [bz]at *;omega) | exact⟨by simp,by simp⟩ | decide | simp_all
           ·try simp only [bz]at h
            refine W.if (fun h=>?_) (fun h=>?_)
            ·try simp only [bz]at h
             refine W.rt ?_
             have ll_95:HW.length=1:=rfl
             first | assumption | omega | (simp only [bz];omega) | (simp only [bz];intros;omega) | (intros;simp only [bz]at *;omega) | exact⟨by simp,by simp⟩ | decide | simp_all
            ·try simp only [bz]at h
             refine W.if (fun h=>?_) (fun h=>?_)
             ·try simp only [bz]at h
              refine W.rt ?_
              have ll_96:C9.length=3:=rfl
              first | assumption | omega | (simp only [bz];omega) | (simp only [bz];intros;omega) | (intros;simp only [bz]at *;omega) | exact⟨by simp,by simp⟩ | decide | simp_all
             ·try simp only [bz]at h
              refine W.if (fun h=>?_) (fun h=>?_)
              ·try simp only [bz]at h
               refine W.rt ?_
               have ll_97:HX.length=1:=rfl
               first | assumption | omega | (simp only [bz];omega) | (simp only [bz];intros;omega) | (intros;simp only [bz]at *;omega) | exact⟨by simp,by simp⟩ | decide | simp_all
              ·try simp only [bz]at h
               refine W.if (fun h=>?_) (fun h=>?_)
               ·try simp only [bz]at h
                refine W.rt ?_
                have ll_98:HY.length=1:=rfl
                first | assumption | omega | (simp only [bz];omega) | (simp only [bz];intros;omega) | (intros;simp only [bz]at *;omega) | exact⟨by simp,by simp⟩ | decide | simp_all
               ·try simp only [bz]at h
                refine W.if (fun h=>?_) (fun h=>?_)
                ·try simp only [bz]at h
                 unfold AK
                 refine W.if (fun h=>?_) (fun h=>?_)
                 ·try simp only [bz]at h
                  refine W.rt ?_
                  first | assumption | omega | (simp only [bz];omega) | (simp only [bz];intros;omega) | (intros;simp only [bz]at *;omega) | exact⟨by simp,by simp⟩ | decide | simp_all
                 ·try simp only [bz]at h
                  refine W.rt ?_
                  have ll_99:B0.length=2:=rfl
                  first | assumption | omega | (simp only [bz];omega) | (simp only [bz];intros;omega) | (intros;simp only [bz]at *;omega) | exact⟨by simp,by simp⟩ | decide | simp_all
                ·try simp only [bz]at h
                 unfold AK
                 refine W.if (fun h=>?_) (fun h=>?_)
                 ·try simp only [bz]at h
                  refine W.rt ?_
                  first | assumption | omega | (simp only [bz];omega) | (simp only [bz];intros;omega) | (intros;simp only [bz]at *;omega) | exact⟨by simp,by simp⟩ | decide | simp_all
                 ·try simp only [bz]at h
                  refine W.rt ?_
                  have ll_100:B0.length=2:=rfl
                  first | assumption | omega | (simp only [bz];omega) | (simp only [bz];intros;omega) | (intros;simp only [bz]at *;omega) | exact⟨by simp,by simp⟩ | decide | simp_all
     ·try simp only [bz]at h
      refine W.if (fun h=>?_) (fun h=>?_)
      ·try simp only [bz]at h
       unfold C3
       try simp only [jn]
       refine W.if (fun h=>?_) (fun h=>?_)
       ·try simp only [bz]at h
        refine W.rt ?_
        have ll_101:UA.length=1:=rfl
        first | assumption | omega | (simp only [bz];omega) | (simp only [bz];intros;omega) | (intros;simp only [bz]at *;omega) | exact⟨by simp,by simp⟩ | decide | simp_all
       ·try simp only [bz]at h
        refine W.if (fun h=>?_) (fun h=>?_)
        ·try simp only [bz]at h
         refine W.rt ?_
         have ll_102:Mv.length=2:=rfl
         first | assumption | omega | (simp only [bz];omega) | (simp only [bz];intros;omega) | (intros;simp only [bz]at *;omega) | exact⟨by simp,by simp⟩ | decide | simp_all
        ·try simp only [bz]at h
         refine W.if (fun h=>?_) (fun h=>?_)
         ·try simp only [bz]at h
          unfold BC
          try simp only [jn]
          refine W.if (fun h=>?_) (fun h=>?_)
          ·try simp only [bz]at h
           refine W.rt ?_
           have ll_103:C7.length=3:=rfl
           first | assumption | omega | (simp only [bz];omega) | (simp only [bz];intros;omega) | (intros;simp only [bz]at *;omega) | exact⟨by simp,by simp⟩ | decide | simp_all
          ·try simp only [bz]at h
           refine W.if (fun h=>?_) (fun h=>?_)
           ·try simp only [bz]at h
            refine W.rt ?_
            have ll_104:C8.length=3:=rfl
            first | assumption | omega | (simp only [bz];omega) | (simp only [bz];intros;omega) | (intros;simp only [bz]at *;omega) | exact⟨by simp,by simp⟩ | decide | simp_all
           ·try simp only [bz]at h
            refine W.if (fun h=>?_) (fun h=>?_)
            ·try simp only [bz]at h
             refine W.rt ?_
             have ll_105:EG.length=2:=rfl
             first | assumption | omega | (simp only [bz];omega) | (simp only [bz];intros;omega) | (intros;simp only [bz]at *;omega) | exact⟨by simp,by simp⟩ | decide | simp_all
            ·try simp only [bz]at h
             refine W.if (fun h=>?_) (fun h=>?_)
             ·try simp only [bz]at h
              refine W.rt ?_
              have ll_106:HW.length=1:=rfl
              first | assumption | omega | (simp only [bz];omega) | (simp only [bz];intros;omega) | (intros;simp only [bz]at *;omega) | exact⟨by simp,by simp⟩ | decide | simp_all
             ·try simp only [bz]at h
              refine W.if (fun h=>?_) (fun h=>?_)
              ·try simp only [bz]at h
               refine W.rt ?_
               have ll_107:C9.length=3:=rfl
               first | assumption | omega | (simp only [bz];omega) | (simp only [bz];intros;omega) | (intros;simp only [bz]at *;omega) | exact⟨by simp,by simp⟩ | decide | simp_all
              ·try simp only [bz]at h
               refine W.if (fun h=>?_) (fun h=>?_)
               ·try simp only [bz]at h
                refine W.rt ?_
                have ll_108:HX.length=1:=rfl
                first | assumption | omega | (simp only [bz];omega) | (simp only [bz];intros;omega) | (intros;simp only [bz]at *;omega) | exact⟨by simp,by simp⟩ | decide | simp_all
               ·try simp only [bz]at h
                refine W.if (fun h=>?_) (fun h=>?_)
                ·try simp only [bz]at h
                 refine W.rt ?_
                 have ll_109:HY.length=1:=rfl
                 first | assumption | omega | (simp only [bz];omega) | (simp only [bz];intros;omega) | (intros;simp only [bz]at *;omega) | exact⟨by simp,by simp⟩ | decide | simp_all
                ·try simp only [bz]at h
                 refine W.if (fun h=>?_) (fun h=>?_)
                 ·try simp only [bz]at h
                  unfold AK
                  refine W.if (fun h=>?_) (fun h=>?_)
                  ·try simp only [bz]at h
                   refine W.rt ?_
                   first | assumption | omega | (simp only [bz];omega) | (simp only [bz];intros;omega) | (intros;simp only [bz]at *;omega) | exact⟨by simp,by simp⟩ | decide | simp_all
                  ·try simp only [bz]at h
                   refine W.rt ?_
                   have ll_110:B0.length=2:=rfl
                   first | assumption | omega | (simp only [bz];omega) | (simp only [bz];intros;omega) | (intros;simp only [bz]at *;omega) | exact⟨by simp,by simp⟩ | decide | simp_all
                 ·try simp only [bz]at h
                  unfold AK
                  refine W.if (fun h=>?_) (fun h=>?_)
                  ·try simp only [bz]at h
                   refine W.rt ?_
                   first | assumption | omega | (simp only [bz];omega) | (simp only [bz];intros;omega) | (intros;simp only [bz]at *;omega) | exact⟨by simp,by simp⟩ | decide | simp_all
                  ·try simp only [bz]at h
                   refine W.rt ?_
                   have ll_111:B0.length=2:=rfl
                   first | assumption | omega | (simp only [bz];omega) | (simp only [bz];intros;omega) | (intros;simp only [bz]at *;omega) | exact⟨by simp,by simp⟩ | decide | simp_all
         ·try simp only [bz]at h
          unfold BC
          try simp only [jn]
          refine W.if (fun h=>?_) (fun h=>?_)
          ·try simp only [bz]at h
           refine W.rt ?_
           have ll_112:C7.length=3:=rfl
           first | assumption | omega | (simp only [bz];omega) | (simp only [bz];intros;omega) | (intros;simp only [bz]at *;omega) | exact⟨by simp,by simp⟩ | decide | simp_all
          ·try simp only [bz]at h
           refine W.if (fun h=>?_) (fun h=>?_)
           ·try simp only [bz]at h
            refine W.rt ?_
            have ll_113:C8.length=3:=rfl
            first | assumption | omega | (simp only [bz];omega) | (simp only [bz];intros;omega) | (intros;simp only [bz]at *;omega) | exact⟨by simp,by simp⟩ | decide | simp_all
           ·try simp only [bz]at h
            refine W.if (fun h=>?_) (fun h=>?_)
            ·try simp only [bz]at h
             refine W.rt ?_
             have ll_114:EG.length=2:=rfl
             first | assumption | omega | (simp only [bz];omega) | (simp only [bz];intros;omega) | (intros;simp only [bz]at *;omega) | exact⟨by simp,by simp⟩ | decide | simp_all
            ·try simp only [bz]at h
             refine W.if (fun h=>?_) (fun h=>?_)
             ·try simp only [bz]at h
              refine W.rt ?_
              have ll_115:HW.length=1:=rfl
              first | assumption | omega | (simp only [bz];omega) | (simp only [bz];intros;omega) | (intros;simp only [bz]at *;omega) | exact⟨by simp,by simp⟩ | decide | simp_all
             ·try simp only [bz]at h
              refine W.if (fun h=>?_) (fun h=>?_)
              ·try simp only [bz]at h
               refine W.rt ?_
               have ll_116:C9.length=3:=rfl
               first | assumption | omega | (simp only [bz];omega) | (simp only [bz];intros;omega) | (intros;simp only [bz]at *;omega) | exact⟨by simp,by simp⟩ | decide | simp_all
              ·try simp only [bz]at h
               refine W.if (fun h=>?_) (fun h=>?_)
               ·try simp only [bz]at h
                refine W.rt ?_
                have ll_117:HX.length=1:=rfl
                first | assumption | omega | (simp only [bz];omega) | (simp only [bz];intros;omega) | (intros;simp only [bz]at *;omega) | exact⟨by simp,by simp⟩ | decide | simp_all
               ·try simp only [bz]at h
                refine W.if (fun h=>?_) (fun h=>?_)
                ·try simp only [bz]at h
                 refine W.rt ?_
                 have ll_118:HY.length=1:=rfl
                 first | assumption | omega | (simp only [bz];omega) | (simp only [bz];intros;omega) | (intros;simp only [bz]at *;omega) | exact⟨by simp,by simp⟩ | decide | simp_all
                ·try simp only [bz]at h
                 refine W.if (fun h=>?_) (fun h=>?_)
                 ·try simp only [bz]at h
                  unfold AK
                  refine W.if (fun h=>?_) (fun h=>?_)
                  ·try simp only [bz]at h
                   refine W.rt ?_
                   first | assumption | omega | (simp only [bz];omega) | (simp only [bz];intros;omega) | (intros;simp only [bz]at *;omega) | exact⟨by simp,by simp⟩ | decide | simp_all
                  ·try simp only [bz]at h
                   refine W.rt ?_
                   have ll_119:B0.length=2:=rfl
                   first | assumption | omega | (simp only [bz];omega) | (simp only [bz];intros;omega) | (intros;simp only [bz]at *;omega) | exact⟨by simp,by simp⟩ | decide | simp_all
                 ·try simp only [bz]at h
                  unfold AK
                  refine W.if (fun h=>?_) (fun h=>?_)
                  ·try simp only [bz]at h
                   refine W.rt ?_
                   first | assumption | omega | (simp only [bz];omega) | (simp only [bz];intros;omega) | (intros;simp only [bz]at *;omega) | exact⟨by simp,by simp⟩ | decide | simp_all
                  ·try simp only [bz]at h
                   refine W.rt ?_
                   have ll_120:B0.length=2:=rfl
                   first | assumption | omega | (simp only [bz];omega) | (simp only [bz];intros;omega) | (intros;simp only [bz]at *;omega) | exact⟨by simp,by simp⟩ | decide | simp_all
      ·try simp only [bz]at h
       unfold C3
       try simp only [jn]
       refine W.if (fun h=>?_) (fun h=>?_)
       ·try simp only [bz]at h
        refine W.rt ?_
        have ll_121:UA.length=1:=rfl
        first | assumption | omega | (simp only [bz];omega) | (simp only [bz];intros;omega) | (intros;simp only [bz]at *;omega) | exact⟨by simp,by simp⟩ | decide | simp_all
       ·try simp only [bz]at h
        refine W.if (fun h=>?_) (fun h=>?_)
        ·try simp only [bz]at h
         refine W.rt ?_
         have ll_122:Mv.length=2:=rfl
         first | assumption | omega | (simp only [bz];omega) | (simp only [bz];intros;omega) | (intros;simp only [bz]at *;omega) | exact⟨by simp,by simp⟩ | decide | simp_all
        ·try simp only [bz]at h
         refine W.if (fun h=>?_) (fun h=>?_)
         ·try simp only [bz]at h
          unfold BC
          try simp only [jn]
          refine W.if (fun h=>?_) (fun h=>?_)
          ·try simp only [bz]at h
           refine W.rt ?_
           have ll_123:C7.length=3:=rfl
           first | assumption | omega | (simp only [bz];omega) | (simp only [bz];intros;omega) | (intros;simp only [bz]at *;omega) | exact⟨by simp,by simp⟩ | decide | simp_all
          ·try simp only [bz]at h
           refine W.if (fun h=>?_) (fun h=>?_)
           ·try simp only [bz]at h
            refine W.rt ?_
            have ll_124:C8.length=3:=rfl
            first | assumption | omega | (simp only [bz];omega) | (simp only [bz];intros;omega) | (intros;simp only [bz]at *;omega) | exact⟨by simp,by simp⟩ | decide | simp_all
           ·try simp only [bz]at h
            refine W.if (fun h=>?_) (fun h=>?_)
            ·try simp only [bz]at h
             refine W.rt ?_
             have ll_125:EG.length=2:=rfl
             first | assumption | omega | (simp only [bz];omega) | (simp only [bz];intros;omega) | (intros;simp only [bz]at *;omega) | exact⟨by simp,by simp⟩ | decide | simp_all
            ·try simp only [bz]at h
             refine W.if (fun h=>?_) (fun h=>?_)
             ·try simp only [bz]at h
              refine W.rt ?_
              have ll_126:HW.length=1:=rfl
              first | assumption | omega | (simp only [bz];omega) | (simp only [bz];intros;omega) | (intros;simp only [bz]at *;omega) | exact⟨by simp,by simp⟩ | decide | simp_all
             ·try simp only [bz]at h
              refine W.if (fun h=>?_) (fun h=>?_)
              ·try simp only [bz]at h
               refine W.rt ?_
               have ll_127:C9.length=3:=rfl
               first | assumption | omega | (simp only [bz];omega) | (simp only [bz];intros;omega) | (intros;simp only [bz]at *;omega) | exact⟨by simp,by simp⟩ | decide | simp_all
              ·try simp only [bz]at h
               refine W.if (fun h=>?_) (fun h=>?_)
               ·try simp only [bz]at h
                refine W.rt ?_
                have ll_128:HX.length=1:=rfl
                first | assumption | omega | (simp only [bz];omega) | (simp only [bz];intros;omega) | (intros;simp only [bz]at *;omega) | exact⟨by simp,by simp⟩ | decide | simp_all
               ·try simp only [bz]at h
                refine W.if (fun h=>?_) (fun h=>?_)
                ·try simp only [bz]at h
                 refine W.rt ?_
                 have ll_129:HY.length=1:=rfl
                 first | assumption | omega | (simp only [bz];omega) | (simp only [bz];intros;omega) | (intros;simp only [bz]at *;omega) | exact⟨by simp,by simp⟩ | decide | simp_all
                ·try simp only [bz]at h
                 refine W.if (fun h=>?_) (fun h=>?_)
                 ·try simp only [bz]at h
                  unfold AK
                  refine W.if (fun h=>?_) (fun h=>?_)
                  ·try simp only [bz]at h
                   refine W.rt ?_
                   first | assumption | omega | (simp only [bz];omega) | (simp only [bz];intros;omega) | (intros;simp only [bz]at *;omega) | exact⟨by simp,by simp⟩ | decide | simp_all
                  ·try simp only [bz]at h
                   refine W.rt ?_
                   have ll_130:B0.length=2:=rfl
                   first | assumption | omega | (simp only [bz];omega) | (simp only [bz];intros;omega) | (intros;simp only [bz]at *;omega) | exact⟨by simp,by simp⟩ | decide | simp_all
                 ·try simp only [bz]at h
                  unfold AK
                  refine W.if (fun h=>?_) (fun h=>?_)
                  ·try simp only [bz]at h
                   refine W.rt ?_
                   first | assumption | omega | (simp only [bz];omega) | (simp only [bz];intros;omega) | (intros;simp only [bz]at *;omega) | exact⟨by simp,by simp⟩ | decide | simp_all
                  ·try simp only [bz]at h
                   refine W.rt ?_
                   have ll_131:B0.length=2:=rfl
                   first | assumption | omega | (simp only [bz];omega) | (simp only [bz];intros;omega) | (intros;simp only [bz]at *;omega) | exact⟨by simp,by simp⟩ | decide | simp_all
         ·try simp only [bz]at h
          unfold BC
          try simp only [jn]
          refine W.if (fun h=>?_) (fun h=>?_)
          ·try simp only [bz]at h
           refine W.rt ?_
           have ll_132:C7.length=3:=rfl
           first | assumption | omega | (simp only [bz];omega) | (simp only [bz];intros;omega) | (intros;simp only [bz]at *;omega) | exact⟨by simp,by simp⟩ | decide | simp_all
          ·try simp only [bz]at h
           refine W.if (fun h=>?_) (fun h=>?_)
           ·try simp only [bz]at h
            refine W.rt ?_
            have ll_133:C8.length=3:=rfl
            first | assumption | omega | (simp only [bz];omega) | (simp only [bz];intros;omega) | (intros;simp only [bz]at *;omega) | exact⟨by simp,by simp⟩ | decide | simp_all
           ·try simp only [bz]at h
            refine W.if (fun h=>?_) (fun h=>?_)
            ·try simp only [bz]at h
             refine W.rt ?_
             have ll_134:EG.length=2:=rfl
             first | assumption | omega | (simp only [bz];omega) | (simp only [bz];intros;omega) | (intros;simp only [bz]at *;omega) | exact⟨by simp,by simp⟩ | decide | simp_all
            ·try simp only [bz]at h
             refine W.if (fun h=>?_) (fun h=>?_)
             ·try simp only [bz]at h
              refine W.rt ?_
              have ll_135:HW.length=1:=rfl
              first | assumption | omega | (simp only [bz];omega) | (simp only [bz];intros;omega) | (intros;simp only [bz]at *;omega) | exact⟨by simp,by simp⟩ | decide | simp_all
             ·try simp only [bz]at h
              refine W.if (fun h=>?_) (fun h=>?_)
              ·try simp only [bz]at h
               refine W.rt ?_
               have ll_136:C9.length=3:=rfl
               first | assumption | omega | (simp only [bz];omega) | (simp only [bz];intros;omega) | (intros;simp only [bz]at *;omega) | exact⟨by simp,by simp⟩ | decide | simp_all
              ·try simp only [bz]at h
               refine W.if (fun h=>?_) (fun h=>?_)
               ·try simp only [bz]at h
                refine W.rt ?_
                have ll_137:HX.length=1:=rfl
                first | assumption | omega | (simp only [bz];omega) | (simp only [bz];intros;omega) | (intros;simp only [bz]at *;omega) | exact⟨by simp,by simp⟩ | decide | simp_all
               ·try simp only [bz]at h
                refine W.if (fun h=>?_) (fun h=>?_)
                ·try simp only [bz]at h
                 refine W.rt ?_
                 have ll_138:HY.length=1:=rfl
                 first | assumption | omega | (simp only [bz];omega) | (simp only [bz];intros;omega) | (intros;simp only [bz]at *;omega) | exact⟨by simp,by simp⟩ | decide | simp_all
                ·try simp only [bz]at h
                 refine W.if (fun h=>?_) (fun h=>?_)
                 ·try simp only [bz]at h
                  unfold AK
                  refine W.if (fun h=>?_) (fun h=>?_)
                  ·try simp only [bz]at h
                   refine W.rt ?_
                   first | assumption | omega | (simp only [bz];omega) | (simp only [bz];intros;omega) | (intros;simp only [bz]at *;omega) | exact⟨by simp,by simp⟩ | decide | simp_all
                  ·try simp only [bz]at h
                   refine W.rt ?_
                   have ll_139:B0.length=2:=rfl
                   first | assumption | omega | (simp only [bz];omega) | (simp only [bz];intros;omega) | (intros;simp only [bz]at *;omega) | exact⟨by simp,by simp⟩ | decide | simp_all
                 ·try simp only [bz]at h
                  unfold AK
                  refine W.if (fun h=>?_) (fun h=>?_)
                  ·try simp only [bz]at h
                   refine W.rt ?_
                   first | assumption | omega | (simp only [bz];omega) | (simp only [bz];intros;omega) | (intros;simp only [bz]at *;omega) | exact⟨by simp,by simp⟩ | decide | simp_all
                  ·try simp only [bz]at h
                   refine W.rt ?_
                   have ll_140:B0.length=2:=rfl
                   first | assumption | omega | (simp only [bz];omega) | (simp only [bz];intros;omega) | (intros;simp only [bz]at *;omega) | exact⟨by simp,by simp⟩ | decide | simp_all
end Go.PL
