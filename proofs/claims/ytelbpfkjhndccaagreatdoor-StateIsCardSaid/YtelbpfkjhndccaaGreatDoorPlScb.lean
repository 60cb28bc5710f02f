/- Plain laws of states: Is of the program and of the reference agree. -/
import Derived.Test.YtelbpfkjhndccaaGreatDoorPlSca
namespace Go.PL
open Go
set_option maxRecDepth 100000
set_option linter.all false
set_option maxHeartbeats 4000000
def pj (s:Ai):Bool:=s.Battlefield.all (Co s 0 (-1))&&(s.Exile.all (Co s 4 (-1))&&(kj s&&((Sb s.Stack).all (Co s 5 (-1))&&s.Objects.all fun o=>(NC s).count o.Id==1)))
def pk (s:Ai):Bool:=(List.range s.Stack.length).all (kC s)&&decide ((s.Stack.length:Int)≤64)
def pm (s:Ai):Bool:=s.Waiting.all (ne s)&&(s.Conts.all (ns s)&&(decide ((s.Waiting.length:Int)≤64)&&decide ((s.Conts.length:Int)≤64)))
def pB (nc:Int) (s:Ai):Bool:=(s.Players.all nr&&G7 s.Players.length 2 4)&&(((List.range s.Objects.length).all (S8 nc s)&&decide ((s.Objects.length:Int)≤2048))&&(pj s&&(pk s&&(pm s&&(km s&&dC s)))))
theorem Xj {nc:Int} {s:Ai} (h:(List.range s.Objects.length).all (S8 nc s)=true):R9 Al.Id s.Objects:=by
 refine pc (nc:=nc) (fun i hi=>?_)
 have:=List.all_eq_true.1 h i (List.mem_range.2 hi)
 unfold S8 at this
 rw [Bool.and_eq_true]at this
 exact of_decide_eq_true this.1
theorem uR {s:Ai} (z:Sz s) (cs:List E1):O1 cs s=some (pB cs.length s):=by
 unfold O1
 rw [gc z,ge z,gf z,gg z]
 unfold pB
 cases h1:(s.Players.all nr&&G7 s.Players.length 2 4)
 ·rfl
 cases h2:((List.range s.Objects.length).all (S8 cs.length s)&&decide ((s.Objects.length:Int)≤2048))
 ·rfl
 rw [Bool.and_eq_true]at h1 h2
 have hr:=Xj h2.1
 have h4:=(tJ.1 h1.2).2
 have e1:IH s=some (pj s):=na hr z (by omega)
 have e2:Kc s=some (pk s):=pg hr z
 simp only [e1,e2,Option.bind_some,Sd,Ph,bT,aas',Bool.true_and,Bool.and_assoc,beq_self_eq_true]
 unfold pm
 simp only [Bool.and_assoc]
def kn (s:Ai):Bool:=if(s.Over==1)=true then G7 s.Winner 0 ((s.Players.length:Int) - 1)else s.Winner== -1
def gl (s:Ai):Bool:=(decide ((s.Stack.length:Int)≤64)&&(decide ((s.Waiting.length:Int)≤64)&&decide ((s.Conts.length:Int)≤64)))&&((List.range s.Stack.length).all (pi s)&&(s.Waiting.all (ne s)&&s.Conts.all (ns s)))
def nh (s:Ai):Bool:=G7 s.Players.length 2 4&&((List.range s.Players.length).all (rX s)&&(rl s 0 (-1) s.Battlefield&&rl s 4 (-1) s.Exile))
def dD (nc:Int) (s:Ai):Bool:=decide ((s.Objects.length:Int)≤2048)&&(List.range s.Objects.length).all (rZ nc s)
def rB (nc:Int) (s:Ai):Bool:=(G7 s.NextId 1 1000000&&(G7 s.NextStamp 1 1000000&&(G7 s.Turn 0 500&&(G7 s.Step 0 10&&decide ((s.Objects.length:Int)≤2048)))))&&
 ((nh s&&(G7 s.Active 0 ((s.Players.length:Int) - 1)&&(G7 s.Priority 0 ((s.Players.length:Int) - 1)&&(G7 s.Passes 0 s.Players.length&&(decide ((s.Extra.length:Int)≤500)&&G7 s.Over 0 2)))))&&
 (km s&&(kn s&&(dD nc s&&gl s))))
theorem uS {s:Ai} (y:Sy s) (cs:List E1):W1 cs s=some (rB cs.length s):=by
 have z:=y.z
 have zx:=z.x
 have hp: ∀ c,Dd s c=some (G7 c 0 ((s.Players.length:Int) - 1)):=fun c=>by
  unfold Dd;rw [UE,dz z.p];rfl
 have e1:decide ((2048:Int)<(s.Objects.length:Int))= !decide ((s.Objects.length:Int)≤2048):=by rw [Bool.eq_iff_iff];simp
 have e2:decide ((500:Int)<(s.Extra.length:Int))= !decide ((s.Extra.length:Int)≤500):=by rw [Bool.eq_iff_iff];simp
 have e3:Ka s=some (nh s):=gj y
 have e4:J8 cs s=some (dD cs.length s):=gk y cs
 have e5:MR s=some (gl s):=ng z
 have J:JQ cs s=some (kn s&&(dD cs.length s&&gl s)):=by
  unfold JQ kn
  simp only [hp,e4,e5,Option.bind_some,Sd,Ph,PP,aq,bT,bne]
  cases s.Over==1<;>cases G7 s.Winner 0 ((s.Players.length:Int) - 1)<;>cases s.Winner== -1<;>cases dD cs.length s<;>rfl
 have L:(iter (fun v=>G6 s v) FU 0).bind (Sum.elim (fun o0=>JQ cs s) (fun o1=>some false))=some (km s&&(kn s&&(dD cs.length s&&gl s))):=by
  rw [Ua (l:=s.Extra) (q:=fun p=>G7 p 0 ((s.Players.length:Int) - 1)) (B:=fun v=>G6 s v) z.x (fun i hi=>by
   show G6 s (i:Int)=_
   unfold G6
   rw [if_pos (by simpa using hi),BA hi]
   simp only [Option.bind_some,hp]
   exact ah (by omega)) (by
   show G6 s _=_
   unfold G6;rw [if_neg (by simp)]),J]
  unfold km
  cases (s.Extra.all fun p=>G7 p 0 ((s.Players.length:Int) - 1))<;>rfl
 unfold W1 rB
 simp only [UE,hp,e1,e2,e3,Option.bind_some,Sd,PP,bF,Bool.not_not,L,aq,Bool.not_or,gb,aas',Bool.and_assoc]
theorem qj (s:Ai) (k:Int):Co s 5 (-1) k=((Ou s k).2&&(Ou s k).1.Zone ==5):=by
 unfold Co Ou
 cases qg s k with
 | none=>rfl
 | some o=>
   show (_&&(true||_))=_
   simp
theorem dE {s:Ai} (h1:s.Battlefield.all (Co s 0 (-1))=true) (h2:s.Exile.all (Co s 4 (-1))=true) (h3:kj s=true) (h4:(Sb s.Stack).all (Co s 5 (-1))=true):
 Vt Al.Id Al.Zone Al.Owner AB.Library AB.Hand AB.Graveyard s.Objects s.Battlefield s.Exile (Sb s.Stack) s.Players where
 bf:=(Uc _ _ _ _).1 h1
 ex:=(Uc _ _ _ _).1 h2
 sp:=(Uc _ _ _ _).1 h4
 pl:=fun i hi=>by
  have:=List.all_eq_true.1 h3 i (List.mem_range.2 hi)
  rw [Cu hi]at this
  unfold mZ at this
  simp only [Bool.and_eq_true]at this
  exact⟨(Uc _ _ _ _).1 this.1,(Uc _ _ _ _).1 this.2.1,(Uc _ _ _ _).1 this.2.2⟩
theorem YQ {s:Ai} (hr:R9 Al.Id s.Objects) (hC:Vt Al.Id Al.Zone Al.Owner AB.Library AB.Hand AB.Graveyard s.Objects s.Battlefield s.Exile (Sb s.Stack) s.Players) {o:Al} (ho:o∈s.Objects):(NC s).count o.Id=XT s o:=dx hr hC ho
theorem S9 {s:Ai} {z w:Int} {l:List Int} (h:rl s z w l=true):l.all (Co s z w)=true:=by
 unfold rl at h
 rw [List.all_eq_true]at h ⊢
 intro k hk
 have:=h k hk
 rw [Bool.and_eq_true]at this
 exact this.1
theorem Ta {s:Ai} {z w:Int} {l:List Int} (h:l.all (Co s z w)=true) (hn:sf l):rl s z w l=true:=by
 unfold rl
 rw [List.all_eq_true]at h ⊢
 intro k hk
 rw [Bool.and_eq_true]
 exact⟨h k hk,by rw [hn k hk];rfl⟩
theorem qk (s:Ai):(if(s.Over==1)=true then G7 s.Winner 0 ((s.Players.length:Int) - 1)else G7 s.Over 0 2&&(s.Winner== -1))=(G7 s.Over 0 2&&kn s):=by
 unfold kn
 by_cases h:s.Over=1
 ·rw [h]
  simp [G7]
 ·rw [if_neg (by simpa using h),if_neg (by simpa using h)]
theorem iD {s:Ai} {i:Nat} (hi:i<s.Stack.length) (k:Int):((I3 s i).count k==0)=(List.range i).all fun j=> !((s.Stack.getD j default).Id ==k):=by
 rw [Bool.eq_iff_iff,beq_iff_eq,List.count_eq_zero,List.all_eq_true]
 unfold I3
 constructor
 ·intro h j hj
  have hj:=List.mem_range.1 hj
  rw [Cu (by omega)]
  simp only [Bool.not_eq_true',beq_eq_false_iff_ne]
  intro e
  refine h (List.mem_map.2 ⟨s.Stack[j],List.mem_take_iff_getElem.2 ⟨j,by omega,rfl⟩,e⟩)
 ·intro h hk
  obtain⟨x,hx,e⟩:=List.mem_map.1 hk
  obtain⟨j,hj,rfl⟩:=List.mem_take_iff_getElem.1 hx
  have:=h j (List.mem_range.2 (by omega))
  rw [Cu (by omega)]at this
  simp only [Bool.not_eq_true',beq_eq_false_iff_ne]at this
  exact this e
theorem ko {s:Ai} (hg:(Sb s.Stack).all (Co s 5 (-1))=true) {i:Nat} (hi:i<s.Stack.length) (h:kC s i=true):pi s i=true:=by
 unfold kC at h
 unfold pi
 rw [iD hi,Bool.and_eq_true,Bool.and_eq_true]at h
 obtain⟨⟨h1,h2⟩,h3⟩:=h
 rw [h1,h3,Bool.and_true,Bool.true_and]
 rw [ap,List.all_eq_true]at hg
 have:=hg _ (List.getElem_mem hi)
 rw [Cu hi]at h2 ⊢
 unfold kl at h2
 unfold sj
 rw [qj]at this
 cases hk:s.Stack[i].Kind ==1
 ·rw [hk]at h2;exact h2
 ·rw [hk]at h2 this
  simp only [Bool.not_true,Bool.false_or,Bool.and_eq_true,if_true]at this h2 ⊢
  exact⟨h2.1,this.1,this.2,h2.2⟩
theorem YR {s:Ai} {i:Nat} (hi:i<s.Stack.length) (h:pi s i=true):kC s i=true∧(!(s.Stack[i].Kind ==1)||Co s 5 (-1) s.Stack[i].Id)=true:=by
 unfold pi at h
 unfold kC
 rw [iD hi]
 rw [Bool.and_eq_true,Bool.and_eq_true]at h
 obtain⟨⟨h1,h2⟩,h3⟩:=h
 rw [h1,h3,Bool.and_true,Bool.true_and]
 rw [Cu hi]at h2 ⊢
 unfold sj at h2
 unfold kl
 rw [qj]
 cases hk:s.Stack[i].Kind ==1
 ·rw [hk]at h2;exact⟨h2,rfl⟩
 ·rw [hk]at h2
  simp only [Bool.not_true,Bool.false_or,Bool.and_eq_true,if_true]at h2 ⊢
  exact⟨⟨h2.1,h2.2.2.2⟩,h2.2.1,h2.2.2.1⟩
theorem tN (nc:Int) (s:Ai):pB nc s=rB nc s:=by
 rw [Bool.eq_iff_iff]
 unfold pB rB
 constructor
 ·intro h
  simp only [Bool.and_eq_true]at h
  obtain⟨⟨hp,hn⟩,⟨ho,hol⟩,hpl,hit,hef,hex,hnu⟩:=h
  have hr:=Xj ho
  unfold pj at hpl
  simp only [Bool.and_eq_true]at hpl
  obtain⟨p1,p2,p3,p4,p5⟩:=hpl
  have hC:=dE p1 p2 p3 p4
  have hown: ∀ o∈s.Objects,XT s o=1:=fun o hm=>by
   rw [←YQ hr hC hm]
   exact beq_iff_eq.1 (List.all_eq_true.1 p5 o hm)
  obtain⟨n1,n2,n3⟩:=oX hr hC hown
  unfold dC at hnu
  rw [qk]at hnu
  simp only [Bool.and_eq_true]at hnu
  obtain⟨m1,m2,m3,m4,m5,m6,m7,m8,m9,m10⟩:=hnu
  unfold pk at hit
  unfold pm at hef
  simp only [Bool.and_eq_true]at hit hef
  obtain⟨i1,i2⟩:=hit
  obtain⟨f1,f2,f3,f4⟩:=hef
  have hrp:nh s=true:=by
   unfold nh
   simp only [Bool.and_eq_true]
   refine⟨hn,?_,Ta p1 n1,Ta p2 n2⟩
   rw [List.all_eq_true]at hp ⊢
   intro i hi
   have hi:=List.mem_range.1 hi
   have q:=List.all_eq_true.1 p3 i (List.mem_range.2 hi)
   unfold mZ at q
   unfold rX
   rw [Cu hi]at q ⊢
   simp only [Bool.and_eq_true]at q ⊢
   have nn:=n3 i hi
   exact⟨hp _ (List.getElem_mem hi),Ta q.1 nn.1,Ta q.2.1 nn.2.1,Ta q.2.2 nn.2.2⟩
  have hro:dD nc s=true:=by
   unfold dD
   rw [Bool.and_eq_true]
   refine⟨hol,?_⟩
   rw [List.all_eq_true]at ho ⊢
   intro i hi
   have:=ho i hi
   have hi:=List.mem_range.1 hi
   unfold S8 at this
   unfold rZ
   simp only [Bool.and_eq_true]at this ⊢
   refine⟨⟨this.2.2.2,this.2.1,this.2.2.1,?_⟩,?_⟩
   ·by_cases h0:i=0
    ·rw [decide_eq_true h0];rfl
    ·have t:=this.1
     unfold JR at t
     rw [if_neg h0]at t
     rw [t,Bool.or_true]
   ·rw [Cu hi,hown _ (List.getElem_mem hi)];rfl
  have hrs:gl s=true:=by
   unfold gl
   simp only [Bool.and_eq_true]
   refine⟨⟨i2,f3,f4⟩,?_,f1,f2⟩
   rw [List.all_eq_true]at i1 ⊢
   intro i hi
   exact ko p4 (List.mem_range.1 hi) (i1 i hi)
  simp only [Bool.and_eq_true]
  exact⟨⟨m6,m7,m1,m4,hol⟩,⟨hrp,m2,m3,m5,m8,m9⟩,hex,m10,hro,hrs⟩
 ·intro h
  simp only [Bool.and_eq_true]at h
  obtain⟨⟨m6,m7,m1,m4,hol⟩,⟨hrp,m2,m3,m5,m8,m9⟩,hex,m10,hro,hrs⟩:=h
  unfold nh at hrp
  unfold dD at hro
  unfold gl at hrs
  simp only [Bool.and_eq_true]at hrp hro hrs
  obtain⟨hn,q1,q2,q3⟩:=hrp
  obtain⟨-,ho⟩:=hro
  obtain⟨⟨i2,f3,f4⟩,hs,f1,f2⟩:=hrs
  rw [List.all_eq_true]at q1 ho hs
  have hq: ∀ i,i<s.Players.length→nr (s.Players.getD i default)=true∧mZ s i (s.Players.getD i default)=true:=fun i hi=>by
   have:=q1 i (List.mem_range.2 hi)
   unfold rX at this
   simp only [Bool.and_eq_true]at this
   refine⟨this.1,?_⟩
   unfold mZ
   simp only [Bool.and_eq_true]
   exact⟨S9 this.2.1,S9 this.2.2.1,S9 this.2.2.2⟩
  have hp:s.Players.all nr=true:=by
   rw [List.all_eq_true]
   intro x hx
   obtain⟨i,hi,rfl⟩:=List.mem_iff_getElem.1 hx
   have:=(hq i hi).1
   rwa [Cu hi]at this
  have p3:kj s=true:=by
   unfold kj
   rw [List.all_eq_true]
   intro i hi
   exact(hq i (List.mem_range.1 hi)).2
  have p1:=S9 q2
  have p2:=S9 q3
  have p4:(Sb s.Stack).all (Co s 5 (-1))=true:=by
   rw [ap,List.all_eq_true]
   intro x hx
   obtain⟨i,hi,rfl⟩:=List.mem_iff_getElem.1 hx
   exact(YR hi (hs i (List.mem_range.2 hi))).2
  have hO:(List.range s.Objects.length).all (S8 nc s)=true:=by
   rw [List.all_eq_true]
   intro i hi
   have:=ho i hi
   unfold rZ at this
   unfold S8
   simp only [Bool.and_eq_true,Bool.or_eq_true]at this ⊢
   obtain⟨⟨t1,t2,t3,t4⟩,t5⟩:=this
   refine⟨?_,t2,t3,t1⟩
   unfold JR
   by_cases h0:i=0
   ·rw [if_pos h0]
    have:=rR t1
    exact decide_eq_true (by omega)
   ·rw [if_neg h0]
    rcases t4 with t4 | t4
    ·exact absurd (of_decide_eq_true t4) h0
    ·exact t4
  have hr:=Xj hO
  have hC:=dE p1 p2 p3 p4
  simp only [Bool.and_eq_true]
  refine⟨⟨hp,hn⟩,⟨hO,hol⟩,?_,?_,?_,hex,?_⟩
  ·unfold pj
   simp only [Bool.and_eq_true]
   refine⟨p1,p2,p3,p4,?_⟩
   rw [List.all_eq_true]
   intro o hm
   rw [YQ hr hC hm]
   obtain⟨i,hi,rfl⟩:=List.mem_iff_getElem.1 hm
   have:=ho i (List.mem_range.2 hi)
   unfold rZ at this
   rw [Bool.and_eq_true]at this
   have:=this.2
   rwa [Cu hi]at this
  ·unfold pk
   rw [Bool.and_eq_true]
   refine⟨?_,i2⟩
   rw [List.all_eq_true]
   intro i hi
   exact(YR (List.mem_range.1 hi) (hs i hi)).1
  ·unfold pm
   simp only [Bool.and_eq_true]
   exact⟨f1,f2,f3,f4⟩
  ·unfold dC
   rw [qk]
   simp only [Bool.and_eq_true]
   exact⟨m1,m2,m3,m4,m5,m6,m7,m8,m9,m10⟩
end Go.PL
