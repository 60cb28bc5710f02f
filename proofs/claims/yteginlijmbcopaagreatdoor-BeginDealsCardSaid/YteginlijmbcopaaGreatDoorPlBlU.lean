/- Plain laws of games dealt in any state: who is dealt to, in order. -/
import Derived.Test.YteginlijmbcopaaGreatDoorPlBlS
namespace Go.PL
open Go
set_option linter.all false
set_option maxRecDepth 100000
set_option maxHeartbeats 1000000
def WT (s:Aa):List Int:=(MQ s s.k_).getD []
def Adr (s:Aa):Bool:=(MQ s s.k_==some (WT s))&&((Ia s==some (if(s.a_.getD s.k_.toNat default).ahy =true then WT s else s.k_::WT s))&&(Nat.ble (WT s).length 3&&(WT s).all fun x=>decide (0<=x)&&decide (x<s.a_.length)))
theorem zG {s:Aa} (h2:2<=s.a_.length) (h4:s.a_.length<=4) (ha:0<=s.k_/\s.k_<s.a_.length):Adr s=true:=by
 obtain⟨ps,os,bf,ex,st,wa,co,x8,x9,x10,x11,x12,x13,x14,x15,x16,xe,x18,x19⟩:=s;dsimp only at h2 h4 ha;rcases ps with _ | ⟨⟨_,_,_,_,_,l0,_,_,_⟩,_ | ⟨⟨_,_,_,_,_,l1,_,_,_⟩,_ | ⟨⟨_,_,_,_,_,l2,_,_,_⟩,_ | ⟨⟨_,_,_,_,_,l3,_,_,_⟩,_ | ⟨e,ps⟩⟩⟩⟩⟩
 ·simp at h2
 ·simp at h2
 ·have:x9=0\/x9=1:=by simp at ha;omega
  rcases this with rfl | rfl<;>cases l0<;>cases l1<;>(change _=_;kernel_rfl)
 ·have:x9=0\/x9=1\/x9=2:=by simp at ha;omega
  rcases this with rfl | rfl | rfl<;>cases l0<;>cases l1<;>cases l2<;>(change _=_;kernel_rfl)
 ·have:x9=0\/x9=1\/x9=2\/x9=3:=by simp at ha;omega
  rcases this with rfl | rfl | rfl | rfl<;>cases l0<;>cases l1<;>cases l2<;>cases l3<;>(change _=_;kernel_rfl)
 ·simp at h4
end Go.PL
