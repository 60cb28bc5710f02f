/- Plain laws of states: numbers; the reference's definition. -/
import Derived.Test.YtelbpfkjhndccaaGreatDoorPlSbZ
namespace Go.PL
open Go
set_option maxRecDepth 100000
set_option linter.all false
set_option maxHeartbeats 4000000
def WM (s:Aj):Bool:=JL s.Turn 0 500&&(JL s.Active 0 ((s.Players.length:Int) - 1)&&(JL s.Priority 0 ((s.Players.length:Int) - 1)&&(JL s.Step 0 10&&(JL s.Passes 0 s.Players.length&&(JL s.NextId 1 1000000&&(JL s.NextStamp 1 1000000&&(decide ((s.Extra.length:Int)≤500)&&if(s.Over==1)=true then JL s.Winner 0 ((s.Players.length:Int) - 1)else JL s.Over 0 2&&(s.Winner== -1))))))))
def iZ (s:Aj):Bool:=s.Extra.all fun p=>JL p 0 ((s.Players.length:Int) - 1)
theorem ph {n:Nat} (h:n<9223372036854775807):Ab ((n:Int) - 1+1)=n:=by rw [BC (by omega) (by omega)];omega
theorem bh {s:Aj} (z:Sz s):H1 s=some (iZ s&&WM s):=by
 have zx:=z.x
 unfold H1 iZ
 rw [XS (l:=s.Extra) (q:=fun p=>JL p 0 ((s.Players.length:Int) - 1)) (B:=fun v=>CM s v) z.x (fun i hi=>by
  show CM s (i:Int)=_
  unfold CM
  rw [if_pos (by simpa using hi),B8 hi]
  simp only [Option.bind_some,UV,gm z.p]
  exact aW (by omega)) (by
  show CM s _=_
  unfold CM;rw [if_neg (by simp)])]
 unfold Fv WM
 have e:decide ((500:Int)<(s.Extra.length:Int))= !decide ((s.Extra.length:Int)≤500):=by rw [Bool.eq_iff_iff];simp
 simp only [Option.bind_some,UV,gm z.p,ph z.p,e,O0,Vh,QA,bF,Bool.not_not,jE,pM,Bool.not_or,iV,aas',Bool.and_assoc]
structure Sy (s:Aj):Prop where
 z:Sz s
 b:s.Battlefield.length*8≤140737488355328
 e:s.Exile.length*8≤140737488355328
 q: ∀ x∈s.Players,x.Library.length*8≤140737488355328∧x.Hand.length*8≤140737488355328∧x.Graveyard.length*8≤140737488355328
end Go.PL
