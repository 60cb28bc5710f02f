/- The plain law of BeginHands: states, copies, searches. -/
import Derived.Test.YtfmknfnfpeopeaaGreatDoorPlBhX
import Derived.Test.YtfmknfnfpeopeaaGreatDoorTw2toPlPx
namespace Go.PL
open Go
set_option linter.all false
set_option maxRecDepth 100000
section
variable {σ ρ:Type} {B:σ→Option (σ⊕ρ)}
theorem Yp {s:σ} {r:ρ} (h:B s=some (.inr r)):iter B FU s=some r:=by
 show iter B (9223372036854775806+1) s=_
 rw [Fa h]
theorem Vg {s s1 s2:σ} {r:ρ} (h0:B s=some (.inl s1)) (h1:B s1=some (.inl s2)) (h:B s2=some (.inr r)):iter B FU s=some r:=by
 show iter B (9223372036854775804+1+1+1) s=_
 rw [Ju h0,Ju h1,Fa h]
end
theorem Io {l:List Int} (h:l.length≤1000):Am l=some l:=if_pos ⟨by omega,by unfold maxLen;omega⟩
theorem bk {l:List Int} (h:l.length≤1000):B9 l=some l:=if_pos ⟨by omega,by unfold maxLen;omega⟩
theorem lH {l:List Aa} (h:l.length≤1000):AK l=some l:=if_pos ⟨by omega,by unfold maxLen;omega⟩
def B6 (l h:List Int):Ar:=⟨20,0,0,⟨0,0,0,0,0,0⟩,false,false,l,h,[]⟩
def SB (p0 p1:Ar) (os:List Aa) (n m q:Int):Af:=⟨[p0,p1],os,[],[],[],[],[],0,1,0,false,1,0,n,m,q,[],0, -1⟩
def ac (p:Ar):Prop:=p.Library.length≤1000∧p.Hand.length≤1000∧p.Graveyard.length≤1000
theorem jI {p:Ar} (h:ac p):CA p=some p:=by
 unfold CA
 rw [Io h.1,Io h.2.1,Io h.2.2]
 rfl
theorem SE {p0 p1:Ar} {os:List Aa} {n m q:Int} (h0:ac p0) (h1:ac p1) (ho:os.length≤1000):FJ (SB p0 p1 os n m q)=some (SB p0 p1 os n m q):=by
 unfold FJ jn
 have e:AJ (SB p0 p1 os n m q).Players =some [p0,p1]:=rfl
 rw [e]
 have b0:Dg [p0,p1] 0 0 [p0,p1]=some (.inl (1,1,[p0,p1])):=by
  have i0:AN [p0,p1] 0=some p0:=Bl (k:=0) (by simp)
  have g:(decide ((0:Int)<(([p0,p1]:List Ar).length :Int)))=true:=rfl
  unfold Dg
  rw [if_pos g,i0,FF (by decide)]
  show (CA p0).bind _=_
  rw [jI h0]
  rfl
 have b1:Dg [p0,p1] 1 1 [p0,p1]=some (.inl (2,2,[p0,p1])):=by
  have i0:AN [p0,p1] 1=some p1:=Bl (k:=1) (by simp)
  have g:(decide ((1:Int)<(([p0,p1]:List Ar).length :Int)))=true:=rfl
  unfold Dg
  rw [if_pos g,i0,FF (by decide)]
  show (CA p1).bind _=_
  rw [jI h1]
  rfl
 have b2:Dg [p0,p1] 2 2 [p0,p1]=some (.inr (2,[p0,p1])):=rfl
 show (iter _ FU (0,0,[p0,p1])).bind _=_
 rw [Vg b0 b1 b2]
 show Jy (SB p0 p1 os n m q) 2 [p0,p1]=_
 unfold Jy
 rw [show (SB p0 p1 os n m q).Objects =os from rfl,lH ho]
 rfl
theorem bm {p0 p1:Ar} {os:List Aa} {n m q:Int} (h0:ac p0) (h1:ac p1):
 CB (SB p0 p1 os n m q) 2 0=some p0.Library∧CB (SB p0 p1 os n m q) 2 1=some p1.Library∧CB (SB p0 p1 os n m q) 1 0=some p0.Hand∧CB (SB p0 p1 os n m q) 1 1=some p1.Hand:=by
 refine⟨?_,?_,?_,?_⟩
 ·show (Am p0.Library).bind _=_;rw [Io h0.1];rfl
 ·show (Am p1.Library).bind _=_;rw [Io h1.1];rfl
 ·show (Am p0.Hand).bind _=_;rw [Io h0.2.1];rfl
 ·show (Am p1.Hand).bind _=_;rw [Io h1.2.1];rfl
section
variable {α:Type}
theorem Vh {A C:List α} {o:α} {p:α→Bool} {B:Int→Option (Int⊕(Unit⊕Int))} (hl:(A++o::C).length <9223372036854775807) (hA: ∀ a∈A,p a=false) (ho:p o=true)
 (hB: ∀ (i:Nat) (h:i<(A++o::C).length),B (i:Int)=some (if p (A++o::C)[i]=true then .inr (.inr (i:Int))else .inl ((i:Int)+1))):iter B FU 0=some (.inr (A.length:Int)):=by
 have hlt:A.length<(A++o::C).length :=by simp
 refine GK (fun i=>(i:Int)) A.length (by omega) (fun i hi=>?_) ?_ rfl
 ·rw [hB i (by omega),if_neg]
  ·rfl
  ·rw [List.getElem_append_left hi,hA _ (List.getElem_mem _)];simp
 ·rw [hB A.length hlt,if_pos]
  rw [List.getElem_append_right (Nat.le_refl _)]
  simpa using ho
theorem jJ {l:List α} {p:α→Bool} {B:Int→Option (Int⊕(Unit⊕Int))} (hl:l.length<9223372036854775807) (hA: ∀ a∈l,p a=false)
 (hB: ∀ (i:Nat) (h:i<l.length),B (i:Int)=some (if p l[i]=true then .inr (.inr (i:Int))else .inl ((i:Int)+1))) (hE:B (l.length:Int)=some (.inr (.inl ()))):iter B FU 0=some (.inl ()):=by
 refine GK (fun i=>(i:Int)) l.length (by omega) (fun i hi=>?_) hE rfl
 rw [hB i hi,if_neg (by rw [hA _ (List.getElem_mem _)];simp)]
 rfl
end
theorem Qf {A C:List Int} {id:Int} (hl:(A++id::C).length ≤900) (hn:(A++id::C).Nodup):B5 (A++id::C) id=some (A++C):=by
 have hA: ∀ a∈A,(a==id)=false:=fun a ha=>by
  have:=(List.nodup_append.1 hn).2.2 a ha id (by simp)
  simpa using this
 have hC: ∀ c∈C,(c==id)=false:=fun c hc=>by
  have:=(List.nodup_cons.1 (List.nodup_append.1 hn).2.1).1
  simp only [beq_eq_false_iff_ne]
  intro e;subst e;exact this hc
 unfold B5 jn
 rw [Io (by omega)]
 have s1:iter (fun(v:Int)=>Dn id (A++id::C) v) FU (0:Int)=some (.inr (A.length:Int)):=by
  refine Vh (A:=A) (C:=C) (o:=id) (p:=fun x=>x==id) (by omega) hA (by simp) fun i hi=>?_
  unfold Dn
  rw [if_pos (by simp at hi ⊢;omega),Bl hi,AA (by omega) (by omega)]
  simp only [Option.bind_some]
  split<;>rfl
 have hlen:(A++id::C).length =A.length+C.length+1:=by simp;omega
 have s2:iter (fun(v:Int×Int×(List (Int)))=>BP id v.1 v.2.1 v.2.2) FU ((A.length:Int),(Al ((A.length:Int)+(1:Int))),A++id::C)=some (((A.length+C.length:Nat):Int),A++C++(id::C).drop C.length):=by
  refine GK (fun k=>(((A.length+k:Nat):Int),((A.length+k+1:Nat):Int),A++C.take k++(id::C).drop k)) C.length (by omega) (fun k hk=>?_) ?_ ?_
  ·have hL:(A++C.take k++(id::C).drop k).length =A.length+C.length+1:=by simp;omega
   have hg:(A++C.take k++(id::C).drop k)[A.length+k+1]? =some C[k]:=by
    rw [List.getElem?_append_right (by simp;omega)]
    simp only [List.length_append,List.length_take,List.getElem?_drop]
    rw [show k+(A.length+k+1 - (A.length+min k C.length))=k+1 by omega,List.getElem?_cons_succ,List.getElem?_eq_getElem hk]
   have hg':(A++C.take k++(id::C).drop k)[A.length+k+1]'(by omega)=C[k]:=by
    have:=List.getElem?_eq_getElem (l:=A++C.take k++(id::C).drop k) (i:=A.length+k+1) (by omega)
    rw [hg]at this;injection this with this;exact this.symm
   have hset:(A++C.take k++(id::C).drop k).set (A.length+k) C[k]=A++C.take (k+1)++(id::C).drop (k+1):=by
    rw [List.set_append_right _ _ (by simp;omega),List.take_succ,List.getElem?_eq_getElem hk]
    have hd:(id::C).drop k=(id::C)[k]'(by simp;omega)::(id::C).drop (k+1):=List.drop_eq_getElem_cons (by simp;omega)
    rw [hd]
    simp only [List.length_append,List.length_take]
    rw [show A.length+k - (A.length+min k C.length)=0 by omega,List.set_cons_zero]
    simp only [Option.toList,List.append_assoc,List.cons_append,List.nil_append]
   show BP id ((A.length+k:Nat):Int) ((A.length+k+1:Nat):Int) (A++C.take k++(id::C).drop k)=_
   unfold BP jn
   rw [if_pos (by simp only [decide_eq_true_eq];rw [hL];omega),Bl (by omega),hg']
   simp only [Option.bind_some]
   rw [hC _ (List.getElem_mem _),if_pos (show (!false)=true from rfl),Bl (by omega)]
   simp only [Option.bind_some]
   rw [Ic,Int.toNat_natCast,hset,AA (by omega) (by omega),AA (by omega) (by omega)]
   rfl
  ·show BP id ((A.length+C.length:Nat):Int) ((A.length+C.length+1:Nat):Int) (A++C.take C.length++(id::C).drop C.length)=_
   unfold BP
   rw [if_neg (by simp;omega),List.take_length]
  ·rw [AA (by omega) (by omega)]
   simp
 show (iter (fun(v:Int)=>Dn id (A++id::C) v) FU (0:Int)).bind _=_
 rw [s1]
 show FI id (A++id::C) (fun v=>D2 v) (A.length:Int)=_
 unfold FI
 rw [if_neg (by simp)]
 show (iter (fun(v:Int×Int×(List (Int)))=>BP id v.1 v.2.1 v.2.2) FU ((A.length:Int),(Al ((A.length:Int)+(1:Int))),A++id::C)).bind _=_
 rw [s2]
 show FH (fun v=>D2 v) ((A.length+C.length:Nat):Int) (A++C++(id::C).drop C.length)=_
 unfold FH
 have hL:(A++C++(id::C).drop C.length).length =A.length+C.length+1:=by simp;omega
 rw [FF (by rw [hL];omega),FF (by rw [hL];omega)]
 simp only [Option.bind_some]
 have e1:(A++C++(id::C).drop C.length).take (A.length+C.length)=A++C:=by
  rw [List.take_append_of_le_length (by simp),List.take_of_length_le (by simp)]
 rw [Int.toNat_natCast,e1,FF (by simp;omega),FF (by simp;omega)]
 simp only [Option.bind_some]
 rw [D2,Int.sub_zero,Int.toNat_natCast,List.take_append_of_le_length (by simp),List.take_of_length_le (by simp)]
end Go.PL
