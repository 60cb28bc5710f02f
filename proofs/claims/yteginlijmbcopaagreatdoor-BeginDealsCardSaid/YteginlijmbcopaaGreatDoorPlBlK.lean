/- Plain laws of games that begin: cards moved, in any state. -/
import Derived.Test.YteginlijmbcopaaGreatDoorPlRcB
namespace Go.PL
open Go
set_option linter.all false
set_option maxRecDepth 100000
set_option maxHeartbeats 1000000
section
variable {α:Type}
theorem tB {A C:List α} {o:α} {p:α->Bool} {B:Int->Option (Int⊕(Unit⊕Int))} (hl:(A++o::C).length <9223372036854775807) (hA: ∀ a∈A,p a=false) (ho:p o=true)
 (hB: ∀ (i:Nat) (h:i<(A++o::C).length),B (i:Int)=some (if p (A++o::C)[i]=true then .inr (.inr (i:Int))else .inl ((i:Int)+1))):iter B FU 0=some (.inr (A.length:Int)):=by
 have hlt:A.length<(A++o::C).length :=by simp
 refine Ch (fun i=>(i:Int)) A.length (by omega) (fun i hi=>?_) ?_ rfl
 all_goals grind
theorem tC {l:List α} {p:α->Bool} {B:Int->Option (Int⊕(Unit⊕Int))} (hl:l.length<9223372036854775807) (hA: ∀ a∈l,p a=false)
 (hB: ∀ (i:Nat) (h:i<l.length),B (i:Int)=some (if p l[i]=true then .inr (.inr (i:Int))else .inl ((i:Int)+1))) (hE:B (l.length:Int)=some (.inr (.inl ()))):iter B FU 0=some (.inl ()):=by
 refine Ch (fun i=>(i:Int)) l.length (by omega) (fun i hi=>?_) hE rfl;grind
end
theorem tD {A C:List Int} {id:Int} (hl:(A++id::C).length <=900) (hn:(A++id::C).Nodup):Ci (A++id::C) id=some (A++C):=by
 have hA: ∀ a∈A,(a==id)=false:=(by grind);have hC: ∀ c∈C,(c==id)=false:=(by grind);unfold Ci jn;rw [UO (by omega)];have s1:iter (fun(v:Int)=>Ea id (A++id::C) v) FU (0:Int)=some (.inr (A.length:Int)):=by refine tB (A:=A) (C:=C) (o:=id) (p:=fun x=>x==id) (by omega) hA (by simp) fun i hi=>?_;unfold Ea;rw [if_pos (by simp at hi ⊢;omega),Al hi,Ay (by omega) (by omega)];grind
 have hlen:(A++id::C).length =A.length+C.length+1:=by simp;omega
 have s2:iter (fun(v:Int×Int×(List (Int)))=>Cs id v.1 v.2.1 v.2.2) FU ((A.length:Int),(Ab ((A.length:Int)+(1:Int))),A++id::C)=some (((A.length+C.length:Nat):Int),A++C++(id::C).drop C.length):=by
  refine Ch (fun k=>(((A.length+k:Nat):Int),((A.length+k+1:Nat):Int),A++C.take k++(id::C).drop k)) C.length (by omega) (fun k hk=>?_) ?_ ?_
  ·have hL:(A++C.take k++(id::C).drop k).length =A.length+C.length+1:=by simp;omega
   have hg:(A++C.take k++(id::C).drop k)[A.length+k+1]? =some C[k]:=by grind
   have hg':(A++C.take k++(id::C).drop k)[A.length+k+1]'(by omega)=C[k]:=by grind
   have aiL:(A++C.take k++(id::C).drop k).set (A.length+k) C[k]=A++C.take (k+1)++(id::C).drop (k+1):=by rw [List.set_append_right _ _ (by simp;omega),List.take_succ,List.getElem?_eq_getElem hk];have hd:(id::C).drop k=(id::C)[k]'(by simp;omega)::(id::C).drop (k+1):=List.drop_eq_getElem_cons (by simp;omega);rw [hd];simp only [List.length_append,List.length_take];rw [show A.length+k - (A.length+min k C.length)=0 by omega,List.set_cons_zero];grind
   show Cs id ((A.length+k:Nat):Int) ((A.length+k+1:Nat):Int) (A++C.take k++(id::C).drop k)=_;unfold Cs jn;rw [if_pos (by simp only [decide_eq_true_eq];rw [hL];omega),Al (by omega),hg'];simp only [Option.bind_some];rw [hC _ (List.getElem_mem _),if_pos (show (!false)=true from rfl),Al (by omega)];simp only [Option.bind_some];rw [KF,Int.toNat_natCast,aiL,Ay (by omega) (by omega),Ay (by omega) (by omega)];rfl
  all_goals grind [Cs,Ay]
 show (iter (fun(v:Int)=>Ea id (A++id::C) v) FU (0:Int)).bind _=_;rw [s1];show Hr id (A++id::C) (fun v=>EU v) (A.length:Int)=_;unfold Hr;rw [if_neg (by simp)];show (iter (fun(v:Int×Int×(List (Int)))=>Cs id v.1 v.2.1 v.2.2) FU ((A.length:Int),(Ab ((A.length:Int)+(1:Int))),A++id::C)).bind _=_;rw [s2];show Hq (fun v=>EU v) ((A.length+C.length:Nat):Int) (A++C++(id::C).drop C.length)=_;unfold Hq;have hL:(A++C++(id::C).drop C.length).length =A.length+C.length+1:=by simp;omega
 rw [C5 (by grind),C5 (by grind)];simp only [Option.bind_some];have e1:(A++C++(id::C).drop C.length).take (A.length+C.length)=A++C:=by grind
 rw [Int.toNat_natCast,e1,C5 (by simp;omega),C5 (by simp;omega)];simp only [Option.bind_some];rw [EU,Int.sub_zero,Int.toNat_natCast,List.take_append_of_le_length (by simp),List.take_of_length_le (by simp)]
section
variable {s:Aa} {A C:List Ae} {o:Ae} {id:Int}
theorem AfT (hO:s.b_=A++o::C) (hl:(A++o::C).length <=100000) (hA: ∀ a∈A,(a.Id==id)=false) (ho:(o.Id==id)=true):QS s id=some (A.length:Int):=by
 have s1:iter (fun(v:Int)=>HC s id v) FU (0:Int)=some (.inr (A.length:Int)):=by refine tB (A:=A) (C:=C) (o:=o) (p:=fun x=>x.Id==id) (by omega) hA ho fun i hi=>?_;unfold HC;rw [hO,if_pos (by simp at hi ⊢;omega),Al hi,Ay (by omega) (by omega)];grind
 show (iter (fun(v:Int)=>HC s id v) FU (0:Int)).bind _=_;rw [s1];rfl
theorem AhI (hO:s.b_=A++o::C) (hl:(A++o::C).length <=100000) (hA: ∀ a∈A,(a.Id==id)=false) (ho:(o.Id==id)=true):Pg s id=some (o,true):=by unfold Pg;rw [AfT hO hl hA ho];simp_all [Al]
theorem AhJ {a2 a3:Int} {a4:Bool} {r1:Ae×Bool} (hO:s.b_=A++o::C) (hl:(A++o::C).length <=100000):MR a2 a3 a4 r1 s (A.length:Int)=HE a2 a3 a4 r1 s (A++C) s.I_ s.k_ s.Step s.H_ s.Priority s.Passes s.f_ s.c_ s.Tw s.aae s.z_ s.I_ s.k_ s.Step s.H_ s.Priority s.Passes s.f_ s.c_ s.Tw s.aae s.z_:=by
 have hlen:(A++o::C).length =A.length+C.length+1:=by simp;omega
 have e1:((A.length:Int) - 0).toNat =A.length:=by omega
 have e2:((A.length:Int)+1).toNat =A.length+1:=by omega
 have e3:(((A++o::C).length :Int) - ((A.length:Int)+1)).toNat =C.length:=by omega
 have e4:((A.length:Int) - 0+(((A++o::C).length :Int) - ((A.length:Int)+1))).toNat =A.length+C.length:=by omega
 have d1:(A++o::C).take A.length=A:=by simp
 have d2:((A++o::C).drop (A.length+1)).take C.length=C:=by simp_all
 have d3:((A++o::C).drop (A.length+C.length)).length =1:=by simp
 unfold MR jn;rw [hO,Ay (by omega) (by omega)];refine(nb (by omega)).trans ?_;rw [if_neg (by simp;omega)];refine(nb (by omega)).trans ?_;grind [nb,Int.toNat_natCast]
def Po (n aFd own z m:Int):Ae:=⟨n,aFd,own,own,z,false,false,false,false,0,⟨0,0,0⟩,m, -1, -1,false,0,0⟩
theorem AfU {n m a2 a3:Int} (h:a2=1\/a2=2) (hT:o.Token=false):IJ o n a2 a3 m=some (Po n o.aag o.p_ a2 m):=by unfold IJ jn MI;rw [hT];rcases h with rfl | rfl<;>rfl
theorem tE {a2 a3:Int} {a4:Bool} {r1:Ae×Bool} {l1:List Ae} {nn:Int} {ps:List Ap} {t1 t2 t3 t5 t6 t7 t8 t9 t10 t11 c1 c2 c3 c5 c6 c7 c8 c9 c10 c11:Int} {t4 c4:Bool} (hl:s.Stack.length<9223372036854775807) (hst: ∀ it∈s.Stack,(it.Id==r1.1.Id&&it.Kind==1)=false):
 Lg a2 a3 a4 r1 s l1 t1 t2 t3 t4 t5 t6 t7 t8 t9 t10 t11 c1 c2 c3 c4 c5 c6 c7 c8 c9 c10 c11 nn ps=DY a2 a3 a4 r1 s l1 nn ps t1 t2 t3 t4 t5 t6 t7 t8 t9 t10 t11 s.Stack c1 c2 c3 c4 c5 c6 c7 c8 c9 c10 c11:=by
 have s2:iter (fun(v:Int)=>GJ r1 s v) FU (0:Int)=some (.inl ()):=by
  refine tC (l:=s.Stack) (p:=fun it:AE=>it.Id==r1.1.Id&&it.Kind==1) hl hst (fun i hi=>?_) ?_
  ·unfold GJ;rw [if_pos (by simp;omega),Al hi,Ay (by omega) (by omega)];grind
  simp_all [GJ]
 unfold Lg jn;rw [s2];rfl
theorem Adk {a2 a3 n m:Int} {a4 b:Bool} {l1:List Ae} {nn:Int} {ps:List Ap} {t1 t2 t3 t5 t6 t9 t10 t11 c1 c2 c3 c5 c6 c7 c8 c9 c10 c11:Int} {t4 c4:Bool} {r2:Aa} {xs:List AE} (h:a2=1\/a2=2) (hT:o.Token=false) (hl:l1.length<=100000) (hn: ∀ x∈l1,x.Id<n):
 DY a2 a3 a4 (o,b) r2 l1 nn ps t1 t2 t3 t4 t5 t6 n m t9 t10 t11 xs c1 c2 c3 c4 c5 c6 c7 c8 c9 c10 c11=HD a2 a4 r2 l1 nn ps t1 t2 t3 t4 t5 t6 n m t9 t10 t11 xs (Po n o.aag o.p_ a2 m) (l1.length:Int):=by
 have hid:(Po n o.aag o.p_ a2 m).Id =n:=rfl;have s1:iter (fun(v:Int)=>GI l1 (Po n o.aag o.p_ a2 m) v) FU (0:Int)=some (.inl ()):=by
  refine tC (l:=l1) (p:=fun x:Ae=>x.Id==(Po n o.aag o.p_ a2 m).Id) (by omega) (by grind) (fun i hi=>?_) ?_
  ·unfold GI;rw [if_pos (by simp;omega),Al hi,Ay (by omega) (by omega)];grind
  simp_all [GI]
 have s2:iter (fun(v:Int)=>GH l1 (Po n o.aag o.p_ a2 m) v) FU (0:Int)=some (.inl ()):=by
  refine tC (l:=l1) (p:=fun x:Ae=>decide ((Po n o.aag o.p_ a2 m).Id <x.Id)) (by omega) (by grind) (fun i hi=>?_) ?_
  ·unfold GH;rw [if_pos (by simp;omega),Al hi,Ay (by omega) (by omega)];grind
  simp_all [GH]
 unfold DY jn;rw [AfU h hT];simp only [Option.bind_some,hT];rw [s1];simp only [Option.bind_some,Sum.elim_inl];unfold OF P2 jn;rw [s2];rfl
def mvS (s:Aa) (ps:List Ap) (os:List Ae):Aa:=⟨ps,os,s.l_,s.T_,s.Stack,s.o_,s.v_,s.I_,s.k_,s.Step,s.H_,s.Priority,s.Passes,s.f_+1,s.c_+1,s.Tw,s.Extra,s.aae,s.z_⟩
def j58 (s:Aa) (z ctl:Int) (o:Ae) (os:List Ae) (ps:List Ap):=DY z ctl false (o,true) s os (s.a_.length:Int) ps s.I_ s.k_ s.Step s.H_ s.Priority s.Passes s.f_ s.c_ s.Tw s.aae s.z_ s.Stack s.I_ s.k_ s.Step s.H_ s.Priority s.Passes s.f_ s.c_ s.Tw s.aae s.z_
theorem Adm {p:Nat} {ctl z:Int} {ws:List Int} (hzz:z=1\/z=2) (hc:F8 s=some s) (hO:s.b_=A++o::C) (hl:(A++o::C).length <=90000) (hA: ∀ a∈A,(a.Id==id)=false) (ho:o.Id=id) (hp:p<s.a_.length) (hw:o.p_=(p:Int))
 (hsl:s.Stack.length<9223372036854775807) (hst: ∀ it∈s.Stack,(it.Id==id&&it.Kind==1)=false) (hps:s.a_.length<=1000):
 (o.O_=2->Ci s.a_[p].g_ id=some ws->EW s id z ctl false=j58 s z ctl o (A++C) (s.a_.set p {s.a_[p]with g_:=ws}))/\
 (o.O_=1->Ci s.a_[p].Hand id=some ws->EW s id z ctl false=j58 s z ctl o (A++C) (s.a_.set p {s.a_[p]with Hand:=ws})):=by
 have hlen:(A++o::C).length =A.length+C.length+1:=by simp;omega
 have hb':(o.Id==id)=true:=by simp [ho]
 have s0:iter (fun(v:Int)=>J2 (o,true) s v) FU (0:Int)=some (.inr (A.length:Int)):=by refine tB (A:=A) (C:=C) (o:=o) (p:=fun x=>x.Id==o.Id) (by omega) (by grind) (by simp) fun i hi=>?_;unfold J2;rw [hO,if_pos (by simp at hi ⊢;omega),Al hi,Ay (by omega) (by omega)];grind
 have e:EW s id z ctl false=HE z ctl false (o,true) s (A++C) s.I_ s.k_ s.Step s.H_ s.Priority s.Passes s.f_ s.c_ s.Tw s.aae s.z_ s.I_ s.k_ s.Step s.H_ s.Priority s.Passes s.f_ s.c_ s.Tw s.aae s.z_:=by unfold EW jn;rw [AhI hO (by omega) hA hb',hc];simp only [Option.bind_some];rw [if_neg (by rcases hzz with rfl | rfl<;>simp),s0];grind [AhJ]
 rw [e];unfold HE jn;dsimp only;rw [hw];refine⟨fun hz hL=>?_,fun hz hL=>?_⟩
 all_goals
  rw [hz,if_neg (by decide),if_neg (by decide)];simp only [Option.bind_some];rw [if_neg (by simp;omega),Al hp];simp only [Option.bind_some]
 ·rw [if_neg (by decide),if_pos (by decide),if_pos trivial];refine(nb (by omega)).trans ?_;rw [ho,hL];simp only [Option.bind_some];refine(nb (by omega)).trans ?_;refine(nb trivial).trans ?_;rw [tE hsl (by rw [ho];exact hst)];rfl
 ·rw [if_pos (by decide),if_pos trivial];refine(nb (by omega)).trans ?_;rw [ho,hL];simp only [Option.bind_some];refine(nb (by omega)).trans ?_;refine(nb trivial).trans ?_;rw [tE hsl (by rw [ho];exact hst)];rfl
theorem AhK {z ctl:Int} {os:List Ae} {ps:List Ap} (h:z=1\/z=2) (hT:o.Token=true):j58 s z ctl o os ps=some (⟨ps,os,s.l_,s.T_,s.Stack,s.o_,s.v_,s.I_,s.k_,s.Step,s.H_,s.Priority,s.Passes,s.f_,s.c_,s.Tw,s.Extra,s.aae,s.z_⟩,0):=by unfold j58 DY;grind
theorem Ajg {p:Nat} {ctl:Int} {q:Ap} (hT:o.Token=false) (hl:(A++C).length <=90000) (hp:p<s.a_.length) (hps:s.a_.length<=1000) (hw:o.p_=(p:Int)) (hh:q.Hand.length<=90000) (hn: ∀ x∈A++C,x.Id<s.f_) (hb:0<=s.f_/\s.f_<=100000000/\0<=s.c_/\s.c_<=100000000):
 j58 s 1 ctl o (A++C) (s.a_.set p q)=some (mvS s (s.a_.set p {q with Hand:=q.Hand++[s.f_]}) (A++C++[Po s.f_ o.aag p 1 s.c_]),s.f_):=by
 unfold j58;rw [Adk (.inl rfl) hT (by omega) hn];unfold HD jn;refine(nb (by omega)).trans ?_;rw [if_neg (by simp),if_pos (by simp),AeP (by rw [List.length_singleton];omega) (by omega)];simp only [Option.bind_some];rw [hw];have hlp:p<(s.a_.set p q).length :=by grind
 rw [if_neg (by decide),if_neg (by decide),show (Po s.f_ o.aag (p:Int) 1 s.c_).p_ =(p:Int)from rfl,show (Po s.f_ o.aag (p:Int) 1 s.c_).Id =s.f_ from rfl,Int.toNat_natCast];rw [if_neg (by simp;omega),Al hlp];simp only [Option.bind_some,List.getElem_set_self];rw [if_pos (by decide),if_pos trivial,if_neg (by decide)];refine(nb (by omega)).trans ?_;rw [AeP (by simp;omega) (by omega)];simp only [Option.bind_some];refine(nb (by omega)).trans ?_;refine(nb trivial).trans ?_;unfold Lf;rw [Ay (by omega) (by omega),Ay (by omega) (by omega),List.set_set];rfl
theorem Ajh {p:Nat} {ctl:Int} {q:Ap} (hT:o.Token=false) (hl:(A++C).length <=90000) (hp:p<s.a_.length) (hps:s.a_.length<=1000) (hw:o.p_=(p:Int)) (hh:q.g_.length<=90000) (hn: ∀ x∈A++C,x.Id<s.f_) (hb:0<=s.f_/\s.f_<=100000000/\0<=s.c_/\s.c_<=100000000):
 j58 s 2 ctl o (A++C) (s.a_.set p q)=some (mvS s (s.a_.set p {q with g_:=s.f_::q.g_}) (A++C++[Po s.f_ o.aag p 2 s.c_]),s.f_):=by
 unfold j58;rw [Adk (.inr rfl) hT (by omega) hn];unfold HD jn;refine(nb (by omega)).trans ?_;rw [if_neg (by simp),if_pos (by simp),AeP (by rw [List.length_singleton];omega) (by omega)];simp only [Option.bind_some];rw [hw];have hlp:p<(s.a_.set p q).length :=by grind
 rw [if_neg (by decide),if_neg (by decide),show (Po s.f_ o.aag (p:Int) 2 s.c_).p_ =(p:Int)from rfl,show (Po s.f_ o.aag (p:Int) 2 s.c_).Id =s.f_ from rfl,Int.toNat_natCast];rw [if_neg (by simp;omega),Al hlp];simp only [Option.bind_some,List.getElem_set_self];rw [if_neg (by decide),if_pos (by decide),if_pos trivial,if_pos (by decide)];refine(nb (by omega)).trans ?_;refine(nb (by simp;omega)).trans ?_;refine(nb (by omega)).trans ?_;refine(nb trivial).trans ?_;unfold Lf;rw [Ay (by omega) (by omega),Ay (by omega) (by omega),List.set_set];rfl
end
end Go.PL
