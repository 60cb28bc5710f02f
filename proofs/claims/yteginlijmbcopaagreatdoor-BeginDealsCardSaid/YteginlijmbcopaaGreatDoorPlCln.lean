/- slices.Clone at any type: what it hands back is owned. -/
import Derived.Test.YteginlijmbcopaaGreatDoorPlRtoPlQa
import Derived.Test.YteginlijmbcopaaGreatDoorPlRtoPlQa
import Derived.Test.YteginlijmbcopaaGreatDoorPlRtoPlQa
namespace Go.PL
open Go Go.RowKit
set_option maxRecDepth 100000
set_option linter.all false
set_option maxHeartbeats 4000000
theorem KZ {α:Type} {P:Program} {I:World->Prop} (hst:Ik I) (enc:α->List C) {f by' E n r1 r2 r3 r4:Nat} {t ty:TypeId} {fn:Func} {l1 l3 l4:List Oper} {o1 o2:Oper} (hf:P.funcs[f]? =some fn) (hn:fn.ntmps=8) (hlen: ∀ x,(enc x).length =n) {a0 r:List α}
 (h:(if a0.length*by'<=140737488355328/\a0.length<=maxLen then some a0 else none)=some r)
 (hb:fn.body=some (.seq (.region r1 l1.toArray false) (.seq (.seq (.region r2 [o1,o2].toArray false) (.cond (.tmp 4) (.seq (.region r3 l3.toArray false) .ret) .skip)) (.seq (.region r4 l4.toArray false) .ret))):=by rfl)
 (hp: ∀ x,Au (enc x)=true:=by(intro _;rfl)) (hr:fn.results= #[.tmp 2]:=by rfl) (hop:o2.op= .binOp .eql t (.tmp 3) (.const (.slice none 0 0)) ty:=by rfl) (hg:o2.guard=none:=by rfl) (hd:o2.dst=some 4:=by rfl) (abR:PL.ent P f=true:=by kernel_rfl) (hsl:D6 P t=true:=by kernel_rfl)
 (h1:Vf (HL P I false l1.toArray l1 [.a] (St.start [vL enc a0] 8)) (sl 8 [(0,vL enc a0)] [])=some ([],sl 8 [(0,vL enc a0)] []):=by kernel_rfl)
 (h2:HL P I false [o1,o2].toArray [o1] [.a] (sl 8 [(0,vL enc a0)] [])=some ([],sl 8 [(0,vL enc a0),(3,vL enc a0)] []):=by kernel_rfl)
 (h3: ∀ b,Vf (HL P I false l3.toArray l3 [.a] (sl 8 [(0,vL enc a0),(3,vL enc a0),(4,vB b)] [])) (sl 8 [(2, .c (.n_ [2]))] [ur [2] E n enc ([]:List α)])=some ([],sl 8 [(2, .c (.n_ [2]))] [ur [2] E n enc ([]:List α)]):=by(intro b;kernel_rfl))
 (h4: ∀ b,Vf (HL P I false l4.toArray l4 [.a, .a,(.e a0.length (a0.flatMap enc)), .a] (sl 8 [(0,vL enc a0),(3,vL enc a0),(4,vB b)] [])) (sl 8 [(2, .c (.n_ [5]))] [ur [5] E n enc a0])=some ([(a0.flatMap enc).length =a0.length*n,([]:List α).length +a0.length=a0.length/\([]:List α).flatMap enc++a0.flatMap enc=a0.flatMap enc,(([]:List α).length +a0.length)*by'<=140737488355328/\([]:List α).length +a0.length<=maxLen],sl 8 [(2, .c (.n_ [5]))] [ur [5] E n enc a0]):=by(intro b;kernel_rfl)):
 Cu P I f [vL enc a0] E n (fun len cs=>len=r.length/\cs=r.flatMap enc):=by
 refine Cu.of (t:=2) (m:=8) hst abR hf hb hr hn ?_;intro w0 av old gv;split at h
 ·rename_i hbd;injection h with h;subst h;refine Rg [.a] (sl 8 [(0,vL enc a0)] []) (aN) ?_ h1;refine Aq.seq ?_;refine Aq.seq ?_;refine Aq.region ?_;refine Rp 1 [.a] (sl 8 [(0,vL enc a0),(3,vL enc a0)] []) (aN) ?_ h2;refine Run.inl rfl hg (E4.aCy (len:=a0.length) (cs:=a0.flatMap enc) hop (fun b hbn=>?_) rfl hsl);rw [hd];refine Rw [] (sl 8 [(0,vL enc a0),(3,vL enc a0),(4,vB b)] []) (aN) ?_;refine Tn ?_;refine Aq.ifB b rfl (fun hb1=>?_) (fun hb1=>?_)
  ·have h0:a0=[]:=List.length_eq_zero_iff.1 (hbn hb1);refine Rg [.a] (sl 8 [(2, .c (.n_ [2]))] [ur [2] E n enc ([]:List α)]) (aN) ?_ (h3 b);refine Aq.ret ?_;refine Tr ?_;exact⟨.inr rfl, .inl ⟨[2],ur [2] E n enc ([]:List α),0,rfl,rfl,rfl,rfl,by rw [h0];exact⟨rfl,rfl⟩⟩⟩
  ·refine Aq.skip ?_;refine Tn ?_;refine Rg [.a, .a,(.e a0.length (a0.flatMap enc)), .a] (sl 8 [(2, .c (.n_ [5]))] [ur [5] E n enc a0]) (aC (Dp (enc:=enc) (n:=n) hlen _)<|aC (by simp)<|aC (by simpa using hbd)<|aN) ?_ (h4 b);refine Aq.ret ?_;exact⟨.inr rfl, .inl ⟨[5],ur [5] E n enc a0,a0.length,rfl,rfl,rfl,Cg _ hp _,⟨rfl,rfl⟩⟩⟩
 ·cases h
end Go.PL
