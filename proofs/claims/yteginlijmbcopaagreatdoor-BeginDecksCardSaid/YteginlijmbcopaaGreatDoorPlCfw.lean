/- Plain laws of games that begin: few. -/
import Derived.Test.YteginlijmbcopaaGreatDoorPlCkZ
namespace Go.PL
open Go
set_option maxRecDepth 100000
set_option linter.all false
set_option maxHeartbeats 1000000
theorem AfE (c:Az) (hd:c.h_.length<9223372036854775807):W (Pp c) (fun _=>True):=by
 simp only [Pp,jn];refine W.it (fun v=>0<=v.2/\v.2<=c.h_.length) (fun v=>((c.h_.length:Int) - v.2).toNat) ⟨by simp,by simp⟩ (by dsimp only;omega) (fun v hv=>?_);obtain⟨n,i⟩:=v;dsimp only at hv ⊢;unfold R6;refine W.if (fun hi=>?_) (fun _=>W.ex ⟨_,rfl,trivial⟩)
 have hi:=of_decide_eq_true hi;have:=Ao (x:=i+1) (by omega) (by omega);exact W.bd (W.idx (by omega)) (fun e _=>W.nx (by dsimp only;omega) (by dsimp only;omega))
end Go.PL
