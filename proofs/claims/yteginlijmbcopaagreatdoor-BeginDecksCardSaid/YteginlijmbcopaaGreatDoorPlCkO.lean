/- Plain laws of states: the reference's texts answer. -/
import Derived.Test.YteginlijmbcopaaGreatDoorPlCkN
import Derived.Test.YteginlijmbcopaaGreatDoorTqtoPlPx
namespace Go.PL
open Go
set_option maxRecDepth 100000
set_option linter.all false
set_option maxHeartbeats 1000000
theorem wIx {l:List (List UInt8)} {b:Nat} {i:Int} (h:0<=i/\i<l.length) (hb:(l.all fun w=>Nat.ble w.length b)=true):W (idx l i) (fun e=>e.length<=b):=
 (W.idx h).imp (by simp_all)
def wC (b:Aj):Prop:=0<=b.Kind/\b.Kind<=3/\0<=b.N/\b.N<=1000000
theorem dX {s:List UInt8} (h:SA s=true):s.length<=32:=by simp_all [SA]
theorem Zy {b:Aj} (h:ia b=true):wC b:=by unfold ia at h;simp only [Bool.and_eq_true,decide_eq_true_eq]at h;exact⟨h.1.1,h.1.2,h.2.1.1,h.2.1.2⟩
structure FOK (f:Aq):Prop where
 z:0<=f.B_/\f.B_<=5
 w:0<=f.Who/\f.Who<=2
 s:0<=f.Self/\f.Self<=2
 t:0<=f.Tap/\f.Tap<=2
 k:0<=f.Keys/\f.Keys<=131071
 y:0<=f.Types/\f.Types<=63/\0<=f.acT/\f.acT<=63
 c:0<=f.ae5/\f.ae5<=31/\0<=f.ab3/\f.ab3<=31
 b:f.Sub.length<=32
 p:wC f.Power
 q:wC f.acS
 v:wC f.Value
theorem zU {f:Aq} (h:Zx f=true):FOK f:=by
 have e:=FO f;rw [h]at e;unfold Ct at e;have e1: ∀ x:Int,(x != 0)= !(x==0):=fun x=>rfl;simp only [Option.bind_some,dV,dW,Uu,gdB,zb,zc,ifN,ifP,bT,bF,nnB,aro,oon,aan,oan,Bool.not_or,Bool.not_and,Bool.and_assoc,e1,Option.some.injEq,Bool.and_eq_true,decide_eq_true_eq]at e;obtain⟨k1,k2,k3,k4,k5,k6,k7,k8,k9,k10,k11,k12,k13,k14, -,k15,k16,k17,k18, -,k19,k20,k21,k22⟩:=e;refine⟨⟨k1,k2⟩,⟨k3,k4⟩,⟨k5,k6⟩,⟨k7,k8⟩,⟨k9,k10⟩,(by grind),(by grind),?_,Zy k20,Zy k21,Zy k22⟩;by_cases hs:f.Sub=[]
 all_goals simp_all [wB,dX]
end Go.PL
