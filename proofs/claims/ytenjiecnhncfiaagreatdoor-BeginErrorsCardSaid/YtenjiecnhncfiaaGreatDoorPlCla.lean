/- The plain law of BeginErrors. -/
import Derived.Test.YtenjiecnhncfiaaGreatDoorPlCkZ
namespace Go.PL
open Go
set_option maxRecDepth 100000
set_option linter.all false
set_option maxHeartbeats 1000000
theorem AgR (c:AH) (hd:c.l_.length<9223372036854775807):W (P9 c) (fun _=>True):=by
 simp only [P9,jn];refine W.it (fun v=>0<=v.2/\v.2<=c.l_.length) (fun v=>((c.l_.length:Int) - v.2).toNat) ⟨by simp,by simp⟩ (by dsimp only;omega) (fun v hv=>?_);obtain⟨n,i⟩:=v;dsimp only at hv ⊢;unfold S9;refine W.if (fun hi=>?_) (fun _=>W.ex ⟨_,rfl,trivial⟩)
 have hi:=of_decide_eq_true hi;have:=AU (x:=i+1) (by omega) (by omega);exact W.bd (W.idx (by omega)) (fun e _=>W.nx (by dsimp only;omega) (by dsimp only;omega))
theorem AgS (c:AH) (d:List Int) (hd:d.length<9223372036854775807) (w:Bool):iter (fun(v:Bool×Int)=>BM c d v.1 v.2) FU (w,0)=some (w||d.any (Oq c)):=by
 refine SO (fun i=>(w||(d.take i).any (Oq c),(i:Int))) d.length hd (fun i hi=>?_) ?_ (by simp)
 ·obtain⟨e,h1,h2⟩:=AgK c d[i] (g:= !(decide (d[i]<0)||decide ((c.aak.length:Int)<=d[i]))) rfl;show BM c d (w||(d.take i).any (Oq c)) (i:Int)=_;rw [List.take_succ_eq_append_getElem hi,List.any_append];simp only [List.any_cons,List.any_nil,Bool.or_false];rw [<-Bool.or_assoc, <-h2];generalize (w||(d.take i).any (Oq c))=x;unfold BM;rw [if_pos (by simp only [bz];omega),BY hi,AU (by omega) (by omega)];simp only [Option.bind_some,SR];cases x
  ·simp only [Bool.false_or,bF];rw [h1,Option.bind_some,Bool.or_assoc];rfl
  ·rfl
 ·show BM c d _ (d.length:Int)=_;unfold BM;rw [if_neg (by simp only [bz];omega),List.take_length]
theorem Ae8 (c:AH) (hd:c.l_.length<9223372036854775807) (hl: ∀ d∈c.l_,d.length<9223372036854775807):iter (fun(v:Bool×Bool×Int)=>BN c v.1 v.2.1 v.2.2) FU (false,false,0)=some (c.l_.any Ut,c.l_.any fun d=>d.any (Oq c)):=by
 refine SO (fun i=>((c.l_.take i).any Ut,(c.l_.take i).any (fun d=>d.any (Oq c)),(i:Int))) c.l_.length hd (fun i hi=>?_) ?_ (by simp)
 ·show BN c _ _ (i:Int)=_;rw [List.take_succ_eq_append_getElem hi,List.any_append,List.any_append];simp only [List.any_cons,List.any_nil,Bool.or_false];simp only [BN,G8,jn];rw [if_pos (by simp only [bz];omega),BY hi,AU (by omega) (by omega)];simp only [Option.bind_some,SR];rw [AgS c _ (hl _ (List.getElem_mem hi))];have:decide ((250:Int)<(c.l_[i].length :Int))=Ut c.l_[i]:=by unfold Ut;rw [Bool.eq_iff_iff];simp;omega
  rw [this];rfl
 ·show BN c _ _ (c.l_.length:Int)=_;unfold BN;rw [if_neg (by simp only [bz];omega),List.take_length]
theorem X6 (ha:IB=some true) {c:AH} (hd:c.l_.length<9223372036854775807) (hc:AbT c):Ea c=some true:=by
 obtain⟨b,hb, -⟩:=AgR c hd;obtain⟨s,hs, -⟩:=AgQ hc;simp only [Ea,ID,IC,jn,hb,ha,hs,y9 hc.1,Ae8 c hd hc.2,Option.bind_some];cases b
 ·rfl
 ·simp only [Bool.not_true,Bool.false_eq_true,if_false,if_true,Option.bind_some];unfold og;by_cases h0:(G4 c.aak).2=0
  ·have h0':((G4 c.aak).2 != 0)=false:=by simp [h0]
   have h1:(if(if(if decide ((c.l_.length:Int)<2)=true then true else decide (4<(c.l_.length:Int)))=true then true else decide (c.aaO<0)) then true else decide ((c.l_.length:Int)<=c.aaO))= !cV c:=by unfold cV;rw [Bool.eq_iff_iff];simp only [bz];simp;omega
   rw [if_neg (show ¬(G4 c.aak).2 ≠ 0 by simp [h0]),h1,h0',h0];cases cV c<;>cases c.l_.any Ut<;>cases (c.l_.any fun d=>d.any (Oq c))<;>rfl
  ·have h0':((G4 c.aak).2 != 0)=true:=by simp [h0]
   rw [if_pos h0,h0'];simp
end Go.PL
