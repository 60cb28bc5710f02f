/- Plain laws of states: Is of the program and of the reference agree. -/
import Derived.Test.YtelbpfkjhndccaaGreatDoorPlSca
namespace Go.PL
open Go
set_option maxRecDepth 100000
set_option linter.all false
set_option maxHeartbeats 4000000
def lJ (s:Aj):Bool:=s.Battlefield.all (DD s 0 (-1))&&(s.Exile.all (DD s 4 (-1))&&(iU s&&((Qv s.Stack).all (DD s 5 (-1))&&s.Objects.all fun o=>(JU s).count o.Id==1)))
def lL (s:Aj):Bool:=(List.range s.Stack.length).all (gp s)&&decide ((s.Stack.length:Int)≤64)
def lM (s:Aj):Bool:=s.Waiting.all (gq s)&&(s.Conts.all (gz s)&&(decide ((s.Waiting.length:Int)≤64)&&decide ((s.Conts.length:Int)≤64)))
def pB (nc:Int) (s:Aj):Bool:=(s.Players.all lI&&JL s.Players.length 2 4)&&(((List.range s.Objects.length).all (Qw nc s)&&decide ((s.Objects.length:Int)≤2048))&&(lJ s&&(lL s&&(lM s&&(iZ s&&WM s)))))
theorem gt {nc:Int} {s:Aj} (h:(List.range s.Objects.length).all (Qw nc s)=true):Ss Ao.Id s.Objects:=by
 refine iW (nc:=nc) (fun i hi=>?_)
 have:=List.all_eq_true.1 h i (List.mem_range.2 hi)
 unfold Qw at this
 rw [Bool.and_eq_true]at this
 exact of_decide_eq_true this.1
theorem lN {s:Aj} (z:Sz s) (cs:List HW):Hd cs s=some (pB cs.length s):=by
 unfold Hd
 rw [bc z,be z,bg z,bh z]
 unfold pB
 cases h1:(s.Players.all lI&&JL s.Players.length 2 4)
 ·rfl
 cases h2:((List.range s.Objects.length).all (Qw cs.length s)&&decide ((s.Objects.length:Int)≤2048))
 ·rfl
 rw [Bool.and_eq_true]at h1 h2
 have hr:=gt h2.1
 have h4:=(gl.1 h1.2).2
 have e1:HF s=some (lJ s):=gk hr z (by omega)
 have e2:IJ s=some (lL s):=iY hr z
 simp only [e1,e2,Option.bind_some,Vh,O0,bT,aas',Bool.true_and,Bool.and_assoc,beq_self_eq_true]
 unfold lM
 simp only [Bool.and_assoc]
end Go.PL
