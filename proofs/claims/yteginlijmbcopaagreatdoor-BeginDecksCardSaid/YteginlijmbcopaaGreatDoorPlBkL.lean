/- Plain laws of games that begin: cards moved, in any state. -/
import Derived.Test.YteginlijmbcopaaGreatDoorPlCkZ
namespace Go.PL
open Go
set_option linter.all false
set_option maxRecDepth 100000
set_option maxHeartbeats 1000000
section
variable {α:Type}
theorem lR {A C:List α} {o:α} {p:α->Bool} {B:Int->Option (Int⊕(Unit⊕Int))} (hl:(A++o::C).length <9223372036854775807) (hA: ∀ a∈A,p a=false) (ho:p o=true)
 (hB: ∀ (i:Nat) (h:i<(A++o::C).length),B (i:Int)=some (if p (A++o::C)[i]=true then .inr (.inr (i:Int))else .inl ((i:Int)+1))):iter B FU 0=some (.inr (A.length:Int)):=by
 have hlt:A.length<(A++o::C).length :=by simp
 refine FS (fun i=>(i:Int)) A.length (by omega) (fun i hi=>?_) ?_ rfl
 all_goals grind
theorem xb {l:List α} {p:α->Bool} {B:Int->Option (Int⊕(Unit⊕Int))} (hl:l.length<9223372036854775807) (hA: ∀ a∈l,p a=false)
 (hB: ∀ (i:Nat) (h:i<l.length),B (i:Int)=some (if p l[i]=true then .inr (.inr (i:Int))else .inl ((i:Int)+1))) (hE:B (l.length:Int)=some (.inr (.inl ()))):iter B FU 0=some (.inl ()):=by
 refine FS (fun i=>(i:Int)) l.length (by omega) (fun i hi=>?_) hE rfl;grind
end
theorem qD {A C:List Int} {id:Int} (hl:(A++id::C).length <=900) (hn:(A++id::C).Nodup):Cw (A++id::C) id=some (A++C):=by
 have hA: ∀ a∈A,(a==id)=false:=(by grind);have hC: ∀ c∈C,(c==id)=false:=(by grind);unfold Cw jn;rw [ZB (by omega)];have s1:iter (fun(v:Int)=>Eo id (A++id::C) v) FU (0:Int)=some (.inr (A.length:Int)):=by refine lR (A:=A) (C:=C) (o:=id) (p:=fun x=>x==id) (by omega) hA (by simp) fun i hi=>?_;unfold Eo;rw [if_pos (by simp at hi ⊢;omega),AD hi,Ao (by omega) (by omega)];grind
 have hlen:(A++id::C).length =A.length+C.length+1:=by simp;omega
 have s2:iter (fun(v:Int×Int×(List (Int)))=>Ch id v.1 v.2.1 v.2.2) FU ((A.length:Int),(Ac ((A.length:Int)+(1:Int))),A++id::C)=some (((A.length+C.length:Nat):Int),A++C++(id::C).drop C.length):=by
  refine FS (fun k=>(((A.length+k:Nat):Int),((A.length+k+1:Nat):Int),A++C.take k++(id::C).drop k)) C.length (by omega) (fun k hk=>?_) ?_ ?_
  ·have hL:(A++C.take k++(id::C).drop k).length =A.length+C.length+1:=by simp;omega
   have hg:(A++C.take k++(id::C).drop k)[A.length+k+1]? =some C[k]:=by grind
   have hg':(A++C.take k++(id::C).drop k)[A.length+k+1]'(by omega)=C[k]:=by grind
   have aey:(A++C.take k++(id::C).drop k).set (A.length+k) C[k]=A++C.take (k+1)++(id::C).drop (k+1):=by rw [List.set_append_right _ _ (by simp;omega),List.take_succ,List.getElem?_eq_getElem hk];have hd:(id::C).drop k=(id::C)[k]'(by simp;omega)::(id::C).drop (k+1):=List.drop_eq_getElem_cons (by simp;omega);rw [hd];simp only [List.length_append,List.length_take];rw [show A.length+k - (A.length+min k C.length)=0 by omega,List.set_cons_zero];grind
   show Ch id ((A.length+k:Nat):Int) ((A.length+k+1:Nat):Int) (A++C.take k++(id::C).drop k)=_;unfold Ch jn;rw [if_pos (by simp only [decide_eq_true_eq];rw [hL];omega),AD (by omega),hg'];simp only [Option.bind_some];rw [hC _ (List.getElem_mem _),if_pos (show (!false)=true from rfl),AD (by omega)];simp only [Option.bind_some];rw [Lr,Int.toNat_natCast,aey,Ao (by omega) (by omega),Ao (by omega) (by omega)];rfl
  ·show Ch id ((A.length+C.length:Nat):Int) ((A.length+C.length+1:Nat):Int) (A++C.take C.length++(id::C).drop C.length)=_;simp_all [Ch]
  grind [Ao]
 show (iter (fun(v:Int)=>Eo id (A++id::C) v) FU (0:Int)).bind _=_;rw [s1];show HQ id (A++id::C) (fun v=>Fh v) (A.length:Int)=_;unfold HQ;rw [if_neg (by simp)];show (iter (fun(v:Int×Int×(List (Int)))=>Ch id v.1 v.2.1 v.2.2) FU ((A.length:Int),(Ac ((A.length:Int)+(1:Int))),A++id::C)).bind _=_;rw [s2];show HP (fun v=>Fh v) ((A.length+C.length:Nat):Int) (A++C++(id::C).drop C.length)=_;unfold HP;have hL:(A++C++(id::C).drop C.length).length =A.length+C.length+1:=by simp;omega
 rw [Dx (by grind),Dx (by grind)];simp only [Option.bind_some];have e1:(A++C++(id::C).drop C.length).take (A.length+C.length)=A++C:=by grind
 rw [Int.toNat_natCast,e1,Dx (by simp;omega),Dx (by simp;omega)];simp only [Option.bind_some];rw [Fh,Int.sub_zero,Int.toNat_natCast,List.take_append_of_le_length (by simp),List.take_of_length_le (by simp)]
theorem AdQ {l:List Ag} (h:l.length<=100000):A0 l=some l:=if_pos (by grind [maxLen])
theorem aes {l:List Int} (h:l.length<=100000):Ap l=some l:=if_pos (by grind [maxLen])
def okP (p:Ar):Prop:=p.q_.length<=100000/\p.Hand.length<=100000/\p.abx.length<=100000
theorem Afx {p:Ar} (h:okP p):FV p=some p:=by unfold FV;rw [aes h.1,aes h.2.1,aes h.2.2];rfl
theorem AdR {l:List Ar} (hl:l.length<=1000) (h: ∀ p∈l,okP p):iter (fun(v:Int×Int×List Ar)=>Ea l v.1 v.2.1 v.2.2) FU (0,0,l)=some ((l.length:Int),l):=by
 refine FS (fun i=>((i:Int),(i:Int),l)) l.length (by omega) (fun i hi=>?_) ?_ rfl
 ·show Ea l (i:Int) (i:Int) l=_;unfold Ea;rw [if_pos (by simp;omega),AD hi];simp only [Option.bind_some];refine(nb (by omega)).trans ?_;rw [Afx (by grind)];simp only [Option.bind_some];refine(nb trivial).trans ?_;rw [Ao (by omega) (by omega),Int.toNat_natCast];have:l.set i l[i]=l:=by simp
  rw [show (⟨l[i].adC,l[i].aj0,l[i].aj1,l[i].acj,l[i].ai8,l[i].anC,l[i].q_,l[i].Hand,l[i].abx⟩:Ar)=l[i]from rfl,this];rfl
 simp_all [Ea]
theorem Afy {s:Aa} (h1:s.bk.length<=1000) (h2: ∀ p∈s.bk,okP p) (h3:s.b_.length<=100000) (h4:s.AT.length<=100000) (h5:s.acv.length<=100000) (e1:s.Stack=[]) (e2:s.aar=[]) (e3:s.ack=[]) (h6:s.Extra.length<=100000):Eb s=some s:=by obtain⟨ps,os,bf,ex,st,wa,co,x8,x9,x10,x11,x12,x13,x14,x15,x16,xe,x18,x19⟩:=s;dsimp only at h1 h2 h3 h4 h5 h6 e1 e2 e3;subst e1 e2 e3;unfold Eb jn;have e:AZ ps=some ps:=if_pos (by grind [maxLen]);dsimp only;rw [e];show (iter (fun(v:Int×Int×List Ar)=>Ea ps v.1 v.2.1 v.2.2) FU (0,0,ps)).bind _=_;rw [AdR h1 h2];show Nl _ _ ps=_;unfold Nl jn;dsimp only;rw [AdQ h3,aes h4,aes h5];show (Ap xe).bind _=_;rw [aes h6];refine(nb (p:=(ps.length:Int)=((ps.length:Nat):Int)) rfl).trans ?_;rfl
section
variable {s:Aa} {A C:List Ag} {o:Ag} {id:Int}
theorem AdS (hO:s.b_=A++o::C) (hl:(A++o::C).length <=100000) (hA: ∀ a∈A,(a.Id==id)=false) (ho:(o.Id==id)=true):QO s id=some (A.length:Int):=by
 have s1:iter (fun(v:Int)=>If s id v) FU (0:Int)=some (.inr (A.length:Int)):=by refine lR (A:=A) (C:=C) (o:=o) (p:=fun x=>x.Id==id) (by omega) hA ho fun i hi=>?_;unfold If;rw [hO,if_pos (by simp at hi ⊢;omega),AD hi,Ao (by omega) (by omega)];grind
 show (iter (fun(v:Int)=>If s id v) FU (0:Int)).bind _=_;rw [s1];rfl
theorem Abf (hO:s.b_=A++o::C) (hl:(A++o::C).length <=100000) (hA: ∀ a∈A,(a.Id==id)=false) (ho:(o.Id==id)=true):Pt s id=some (o,true):=by unfold Pt;rw [AdS hO hl hA ho];simp_all [AD]
theorem Abg {a2 a3:Int} {a4:Bool} {r1:Ag×Bool} (hO:s.b_=A++o::C) (hl:(A++o::C).length <=100000):Nq a2 a3 a4 r1 s (A.length:Int)=Ik a2 a3 a4 r1 s (A++C) s.aaf s.aaj s.Step s.abI s.Priority s.Passes s.g_ s.l_ s.ab2 s.ac9 s.aaK s.aaf s.aaj s.Step s.abI s.Priority s.Passes s.g_ s.l_ s.ab2 s.ac9 s.aaK:=by
 have hlen:(A++o::C).length =A.length+C.length+1:=by simp;omega
 have e1:((A.length:Int) - 0).toNat =A.length:=by omega
 have e2:((A.length:Int)+1).toNat =A.length+1:=by omega
 have e3:(((A++o::C).length :Int) - ((A.length:Int)+1)).toNat =C.length:=by omega
 have e4:((A.length:Int) - 0+(((A++o::C).length :Int) - ((A.length:Int)+1))).toNat =A.length+C.length:=by omega
 have d1:(A++o::C).take A.length=A:=by simp
 have d2:((A++o::C).drop (A.length+1)).take C.length=C:=by simp_all
 have d3:((A++o::C).drop (A.length+C.length)).length =1:=by simp
 unfold Nq jn;rw [hO,Ao (by omega) (by omega)];refine(nb (by omega)).trans ?_;rw [if_neg (by simp;omega)];refine(nb (by omega)).trans ?_;refine(nb (by omega)).trans ?_;refine(nb (by omega)).trans ?_;rw [e1,e2,e3,e4,d1,d2];generalize hX:(A++o::C).drop (A.length+C.length)=X at d3 ⊢;have l1:(A++(C++X)).length =A.length+C.length+1:=by simp;omega
 have t1:(A++(C++X)).take (A.length+C.length)=A++C:=by grind
 show ((n_ _).bind _)=_;refine(nb (by rw [l1];omega)).trans ?_;refine(nb (by grind)).trans ?_;rw [Int.toNat_natCast,t1];generalize hY:List.replicate _ _++(A++(C++X)).drop _=Y;have hYl:1<=Y.length:=by grind
 show ((n_ _).bind _)=_;refine(nb (by simp;omega)).trans ?_;grind
def Ux (n aiU own z m:Int):Ag:=⟨n,aiU,own,own,z,false,false,false,false,0,⟨0,0,0⟩,m, -1, -1,false,0,0⟩
theorem AdT {n m a2 a3:Int} (h:a2=1\/a2=2) (hT:o.Token=false):Jw o n a2 a3 m=some (Ux n o.Ti o.m_ a2 m):=by unfold Jw jn Nb;rw [hT];rcases h with rfl | rfl<;>rfl
theorem qE {a2 a3:Int} {a4:Bool} {r1:Ag×Bool} {l1:List Ag} {nn:Int} {ps:List Ar} {t1 t2 t3 t5 t6 t7 t8 t9 t10 t11 c1 c2 c3 c5 c6 c7 c8 c9 c10 c11:Int} {t4 c4:Bool} (hl:s.Stack.length<9223372036854775807) (hst: ∀ it∈s.Stack,(it.Id==r1.1.Id&&it.Kind==1)=false):
 LU a2 a3 a4 r1 s l1 t1 t2 t3 t4 t5 t6 t7 t8 t9 t10 t11 c1 c2 c3 c4 c5 c6 c7 c8 c9 c10 c11 nn ps=Ij a2 a3 a4 r1 s l1 nn ps t1 t2 t3 t4 t5 t6 t7 t8 t9 t10 t11 s.Stack c1 c2 c3 c4 c5 c6 c7 c8 c9 c10 c11:=by
 have s2:iter (fun(v:Int)=>Hd r1 s v) FU (0:Int)=some (.inl ()):=by
  refine xb (l:=s.Stack) (p:=fun it:A7=>it.Id==r1.1.Id&&it.Kind==1) hl hst (fun i hi=>?_) ?_
  ·unfold Hd;rw [if_pos (by simp;omega),AD hi,Ao (by omega) (by omega)];grind
  simp_all [Hd]
 unfold LU jn;rw [s2];rfl
theorem Abh {a2 a3 n m:Int} {a4 b:Bool} {l1:List Ag} {nn:Int} {ps:List Ar} {t1 t2 t3 t5 t6 t9 t10 t11 c1 c2 c3 c5 c6 c7 c8 c9 c10 c11:Int} {t4 c4:Bool} {r2:Aa} {xs:List A7} (h:a2=1\/a2=2) (hT:o.Token=false) (hl:l1.length<=100000) (hn: ∀ x∈l1,x.Id<n):
 Ij a2 a3 a4 (o,b) r2 l1 nn ps t1 t2 t3 t4 t5 t6 n m t9 t10 t11 xs c1 c2 c3 c4 c5 c6 c7 c8 c9 c10 c11=Ii a2 a4 r2 l1 nn ps t1 t2 t3 t4 t5 t6 n m t9 t10 t11 xs (Ux n o.Ti o.m_ a2 m) (l1.length:Int):=by
 have hid:(Ux n o.Ti o.m_ a2 m).Id =n:=rfl;have s1:iter (fun(v:Int)=>Hc l1 (Ux n o.Ti o.m_ a2 m) v) FU (0:Int)=some (.inl ()):=by
  refine xb (l:=l1) (p:=fun x:Ag=>x.Id==(Ux n o.Ti o.m_ a2 m).Id) (by omega) (by grind) (fun i hi=>?_) ?_
  ·unfold Hc;rw [if_pos (by simp;omega),AD hi,Ao (by omega) (by omega)];grind
  simp_all [Hc]
 have s2:iter (fun(v:Int)=>Hb l1 (Ux n o.Ti o.m_ a2 m) v) FU (0:Int)=some (.inl ()):=by
  refine xb (l:=l1) (p:=fun x:Ag=>decide ((Ux n o.Ti o.m_ a2 m).Id <x.Id)) (by omega) (by grind) (fun i hi=>?_) ?_
  ·unfold Hb;rw [if_pos (by simp;omega),AD hi,Ao (by omega) (by omega)];grind
  simp_all [Hb]
 unfold Ij jn;rw [AdT h hT];simp only [Option.bind_some,hT];rw [s1];simp only [Option.bind_some,Sum.elim_inl];unfold OS P0 jn;rw [s2];rfl
def mvS (s:Aa) (ps:List Ar) (os:List Ag):Aa:=⟨ps,os,s.AT,s.acv,s.Stack,s.aar,s.ack,s.aaf,s.aaj,s.Step,s.abI,s.Priority,s.Passes,s.g_+1,s.l_+1,s.ab2,s.Extra,s.ac9,s.aaK⟩
theorem AdU {p:Nat} {ctl:Int} {ws:List Int} (hc:Eb s=some s) (hO:s.b_=A++o::C) (hl:(A++o::C).length <=90000) (hA: ∀ a∈A,(a.Id==id)=false) (ho:o.Id=id) (hp:p<s.bk.length) (hw:o.m_=(p:Int)) (hz:o.B_=2) (hT:o.Token=false)
 (hsl:s.Stack.length<9223372036854775807) (hst: ∀ it∈s.Stack,(it.Id==id&&it.Kind==1)=false) (hL:Cw s.bk[p].q_ id=some ws) (hh:s.bk[p].Hand.length <=90000) (hn: ∀ x∈A++C,x.Id<s.g_) (hps:s.bk.length<=1000) (hb:0<=s.g_/\s.g_<=100000000/\0<=s.l_/\s.l_<=100000000):
 Fn s id 1 ctl false=some (mvS s (s.bk.set p {s.bk[p]with q_:=ws,Hand:=s.bk[p].Hand ++[s.g_]}) (A++C++[Ux s.g_ o.Ti p 1 s.l_]),s.g_):=by
 have hlen:(A++o::C).length =A.length+C.length+1:=by simp;omega
 have hb':(o.Id==id)=true:=by simp [ho]
 have hAC:(A++C).length <=90000:=by grind
 unfold Fn jn;rw [Abf hO (by omega) hA hb',hc];simp only [Option.bind_some];rw [if_neg (by simp)];have s0:iter (fun(v:Int)=>EW (o,true) s v) FU (0:Int)=some (.inr (A.length:Int)):=by refine lR (A:=A) (C:=C) (o:=o) (p:=fun x=>x.Id==o.Id) (by omega) (by grind) (by simp) fun i hi=>?_;unfold EW;rw [hO,if_pos (by simp at hi ⊢;omega),AD hi,Ao (by omega) (by omega)];grind
 rw [s0];simp only [Option.bind_some,Sum.elim_inr];rw [Abg hO (by omega)];unfold Ik jn;dsimp only;rw [hz,hw];rw [if_neg (by decide),if_neg (by decide)];simp only [Option.bind_some];rw [if_neg (by simp;omega),AD hp];simp only [Option.bind_some];rw [if_neg (by decide),if_pos (by decide),if_pos trivial];refine(nb (by omega)).trans ?_;rw [ho,hL];simp only [Option.bind_some];refine(nb (by omega)).trans ?_;refine(nb trivial).trans ?_;rw [qE hsl (by rw [ho];exact hst),Abh (.inl rfl) hT (by omega) hn];unfold Ii jn;refine(nb (by omega)).trans ?_;rw [if_neg (by simp),if_pos (by simp),nY (by rw [List.length_singleton];omega) (by omega)];simp only [Option.bind_some];rw [hw];have hlp:p<(s.bk.set p {s.bk[p]with q_:=ws}).length :=by grind
 rw [if_neg (by decide),if_neg (by decide),show (Ux s.g_ o.Ti (p:Int) 1 s.l_).m_ =(p:Int)from rfl,show (Ux s.g_ o.Ti (p:Int) 1 s.l_).Id =s.g_ from rfl,Int.toNat_natCast];rw [if_neg (by simp;omega),AD hlp];simp only [Option.bind_some,List.getElem_set_self];rw [if_pos (by decide),if_pos trivial,if_neg (by decide)];refine(nb (by omega)).trans ?_;rw [nY (by simp;omega) (by omega)];simp only [Option.bind_some];refine(nb (by omega)).trans ?_;refine(nb trivial).trans ?_;unfold LT;rw [Ao (by omega) (by omega),Ao (by omega) (by omega),List.set_set];rfl
theorem Afz {p:Nat} {ctl:Int} {ws:List Int} (hc:Eb s=some s) (hO:s.b_=A++o::C) (hl:(A++o::C).length <=90000) (hA: ∀ a∈A,(a.Id==id)=false) (ho:o.Id=id) (hp:p<s.bk.length) (hw:o.m_=(p:Int)) (hz:o.B_=1) (hT:o.Token=false)
 (hsl:s.Stack.length<9223372036854775807) (hst: ∀ it∈s.Stack,(it.Id==id&&it.Kind==1)=false) (hL:Cw s.bk[p].Hand id=some ws) (hh:s.bk[p].q_.length <=90000) (hn: ∀ x∈A++C,x.Id<s.g_) (hps:s.bk.length<=1000) (hb:0<=s.g_/\s.g_<=100000000/\0<=s.l_/\s.l_<=100000000):
 Fn s id 2 ctl false=some (mvS s (s.bk.set p {s.bk[p]with Hand:=ws,q_:=s.g_::s.bk[p].q_}) (A++C++[Ux s.g_ o.Ti p 2 s.l_]),s.g_):=by
 have hlen:(A++o::C).length =A.length+C.length+1:=by simp;omega
 have hb':(o.Id==id)=true:=by simp [ho]
 have hAC:(A++C).length <=90000:=by grind
 unfold Fn jn;rw [Abf hO (by omega) hA hb',hc];simp only [Option.bind_some];rw [if_neg (by simp)];have s0:iter (fun(v:Int)=>EW (o,true) s v) FU (0:Int)=some (.inr (A.length:Int)):=by refine lR (A:=A) (C:=C) (o:=o) (p:=fun x=>x.Id==o.Id) (by omega) (by grind) (by simp) fun i hi=>?_;unfold EW;rw [hO,if_pos (by simp at hi ⊢;omega),AD hi,Ao (by omega) (by omega)];grind
 rw [s0];simp only [Option.bind_some,Sum.elim_inr];rw [Abg hO (by omega)];unfold Ik jn;dsimp only;rw [hz,hw];rw [if_neg (by decide),if_neg (by decide)];simp only [Option.bind_some];rw [if_neg (by simp;omega),AD hp];simp only [Option.bind_some];rw [if_pos (by decide),if_pos trivial];refine(nb (by omega)).trans ?_;rw [ho,hL];simp only [Option.bind_some];refine(nb (by omega)).trans ?_;refine(nb trivial).trans ?_;rw [qE hsl (by rw [ho];exact hst),Abh (.inr rfl) hT (by omega) hn];unfold Ii jn;refine(nb (by omega)).trans ?_;rw [if_neg (by simp),if_pos (by simp),nY (by rw [List.length_singleton];omega) (by omega)];simp only [Option.bind_some];rw [hw];have hlp:p<(s.bk.set p {s.bk[p]with Hand:=ws}).length :=by grind
 rw [if_neg (by decide),if_neg (by decide),show (Ux s.g_ o.Ti (p:Int) 2 s.l_).m_ =(p:Int)from rfl,show (Ux s.g_ o.Ti (p:Int) 2 s.l_).Id =s.g_ from rfl,Int.toNat_natCast];rw [if_neg (by simp;omega),AD hlp];simp only [Option.bind_some,List.getElem_set_self];rw [if_neg (by decide),if_pos (by decide),if_pos trivial,if_pos (by decide)];refine(nb (by omega)).trans ?_;refine(nb (by simp;omega)).trans ?_;refine(nb (by omega)).trans ?_;refine(nb trivial).trans ?_;unfold LT;rw [Ao (by omega) (by omega),Ao (by omega) (by omega),List.set_set];rfl
end
end Go.PL
