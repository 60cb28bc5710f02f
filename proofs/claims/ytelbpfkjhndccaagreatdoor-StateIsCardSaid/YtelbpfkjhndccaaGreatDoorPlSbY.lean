/- Plain laws of states: the places of the objects. -/
import Derived.Test.YtelbpfkjhndccaaGreatDoorPlSbW
namespace Go.PL
open Go
set_option maxRecDepth 100000
set_option linter.all false
set_option maxHeartbeats 4000000
theorem sh {α:Type} (b:Bool) (x y:α):(if b=true then some x else some y)=some (if b=true then x else y):=by cases b<;>rfl
abbrev SM:=List (Int×Int)
section
variable {s:Ai} (hr:R9 Al.Id s.Objects) (hn:s.Objects.length<4611686018427387903)
include hr hn
theorem uO {i:Int} {e:AB} {kv:SM} (h:e.Library.length<9223372036854775807):if e.Library.all (Co s 2 i)=true then iter (fun(v:Int×SM)=>B1 s i e v.1 v.2) FU (0,kv)=some (.inl (Fb kv e.Library))else ∃ r,iter (fun(v:Int×SM)=>B1 s i e v.1 v.2) FU (0,kv)=some (.inr r):=
 Rd (ε:=Unit) (ρ:=Unit) (B:=fun(v:Int×SM)=>B1 s i e v.1 v.2) h (fun k hk kv=>by
  show B1 s i e (k:Int) kv=_
  unfold B1
  rw [if_pos (by simpa using hk),BA hk]
  simp only [Option.bind_some,PG hr hn,Sa,sh]) (fun kv=>by
  show B1 s i e _ kv=_
  unfold B1;rw [if_neg (by simp)])
theorem tG {i:Int} {e:AB} {kv:SM} (h:e.Hand.length<9223372036854775807):if e.Hand.all (Co s 1 i)=true then iter (fun(v:Int×SM)=>Cm s i e v.1 v.2) FU (0,kv)=some (.inl (Fb kv e.Hand))else ∃ r,iter (fun(v:Int×SM)=>Cm s i e v.1 v.2) FU (0,kv)=some (.inr r):=
 Rd (ε:=Unit) (ρ:=Unit) (B:=fun(v:Int×SM)=>Cm s i e v.1 v.2) h (fun k hk kv=>by
  show Cm s i e (k:Int) kv=_
  unfold Cm
  rw [if_pos (by simpa using hk),BA hk]
  simp only [Option.bind_some,PG hr hn,Sa,sh]) (fun kv=>by
  show Cm s i e _ kv=_
  unfold Cm;rw [if_neg (by simp)])
theorem rV {i:Int} {e:AB} {kv:SM} (h:e.Graveyard.length<9223372036854775807):if e.Graveyard.all (Co s 3 i)=true then iter (fun(v:Int×SM)=>Ck s i e v.1 v.2) FU (0,kv)=some (.inl (Fb kv e.Graveyard))else ∃ r,iter (fun(v:Int×SM)=>Ck s i e v.1 v.2) FU (0,kv)=some (.inr r):=
 Rd (ε:=Unit) (ρ:=Unit) (B:=fun(v:Int×SM)=>Ck s i e v.1 v.2) h (fun k hk kv=>by
  show Ck s i e (k:Int) kv=_
  unfold Ck
  rw [if_pos (by simpa using hk),BA hk]
  simp only [Option.bind_some,PG hr hn,Sa,sh]) (fun kv=>by
  show Ck s i e _ kv=_
  unfold Ck;rw [if_neg (by simp)])
theorem vm {kv:SM} (h:s.Exile.length<9223372036854775807):if s.Exile.all (Co s 4 (-1))=true then iter (fun(v:Int×SM)=>B2 s v.1 v.2) FU (0,kv)=some (.inl (Fb kv s.Exile))else ∃ r,iter (fun(v:Int×SM)=>B2 s v.1 v.2) FU (0,kv)=some (.inr r):=
 Rd (ε:=Unit) (ρ:=Unit) (B:=fun(v:Int×SM)=>B2 s v.1 v.2) h (fun k hk kv=>by
  show B2 s (k:Int) kv=_
  unfold B2
  rw [if_pos (by simpa using hk),BA hk]
  simp only [Option.bind_some,PG hr hn,Sa,sh]) (fun kv=>by
  show B2 s _ kv=_
  unfold B2;rw [if_neg (by simp)])
theorem vn {kv:SM} (h:s.Battlefield.length<9223372036854775807):if s.Battlefield.all (Co s 0 (-1))=true then iter (fun(v:Int×SM)=>B3 s v.1 v.2) FU (0,kv)=some (.inl (Fb kv s.Battlefield))else ∃ r,iter (fun(v:Int×SM)=>B3 s v.1 v.2) FU (0,kv)=some (.inr r):=
 Rd (ε:=Unit) (ρ:=Unit) (B:=fun(v:Int×SM)=>B3 s v.1 v.2) h (fun k hk kv=>by
  show B3 s (k:Int) kv=_
  unfold B3
  rw [if_pos (by simpa using hk),BA hk]
  simp only [Option.bind_some,PG hr hn,Sa,sh]) (fun kv=>by
  show B3 s _ kv=_
  unfold B3;rw [if_neg (by simp)])
theorem vo {e:Cb} {kv:SM}:if Co s 5 (-1) e.Id=true then iter (fun(v:Int×SM)=>Ci s e v.1 v.2) FU (0,kv)=some (.inl (Fb kv [e.Id]))else ∃ r,iter (fun(v:Int×SM)=>Ci s e v.1 v.2) FU (0,kv)=some (.inr r):=by
 have:=Rd (ε:=Unit) (ρ:=Unit) (l:=[e.Id]) (kv:=kv) (good:=Co s 5 (-1)) (B:=fun(v:Int×SM)=>Ci s e v.1 v.2) (by simp) (fun k hk kv=>by
  show Ci s e (k:Int) kv=_
  unfold Ci
  rw [if_pos (by have:k<1:=hk;simp only [List.length_cons,List.length_nil,bz];omega),BA hk]
  simp only [Option.bind_some,PG hr hn,Sa,sh]) (fun kv=>by
  show Ci s e _ kv=_
  unfold Ci;rw [if_neg (by simp)])
 simpa using this
def mZ (s:Ai) (i:Int) (p:AB):Bool:=p.Library.all (Co s 2 i)&&(p.Hand.all (Co s 1 i)&&p.Graveyard.all (Co s 3 i))
omit hr hn in
theorem tH (i:Int) (b:Bool) (kv:SM):Dm i b kv false=some (.inr (.inr ())):=by
 unfold Dm;cases b<;>rfl
theorem uP {i:Int} {e:AB} {kv:SM} (h:e.Graveyard.length<9223372036854775807):Cl s i e true kv true=some (if e.Graveyard.all (Co s 3 i)=true then .inl (Ab (i+1),Fb kv e.Graveyard)else .inr (.inr ())):=by
 have hl:=rV hr hn (i:=i) (e:=e) (kv:=kv) h
 unfold Cl
 simp only [Option.bind_some,Bool.not_true,Bool.false_eq_true,if_false,beq_self_eq_true,if_true]
 cases hg:e.Graveyard.all (Co s 3 i)
 ·rw [hg,if_neg (by simp)]at hl
  obtain⟨r,hl⟩:=hl
  rw [hl]
  simp only [Option.bind_some,Sum.elim_inr,tH,Bool.false_eq_true,if_false]
 ·rw [hg,if_pos rfl]at hl
  rw [hl]
  rfl
omit hr hn in
theorem tI {i:Int} {e:AB} {kv:SM} (v q:Bool) (h:(v&&q)=false):Cl s i e v kv q=some (.inr (.inr ())):=by
 have hb:(if(!v)=true then true else !q)=true:=by cases v<;>cases q<;>simp_all
 unfold Cl
 simp only [Option.bind_some,hb]
 rw [if_neg (by simp)]
 exact tH _ _ _
theorem vp {i:Nat} {kv:SM} (h:i<s.Players.length) (h1:s.Players[i].Library.length <9223372036854775807) (h2:s.Players[i].Hand.length <9223372036854775807) (h3:s.Players[i].Graveyard.length <9223372036854775807):
 Cn s (i:Int) kv=some (if mZ s i s.Players[i]=true then .inl (Ab ((i:Int)+1),Fb kv (s.Players[i].Library ++s.Players[i].Hand ++s.Players[i].Graveyard))else .inr (.inr ())):=by
 unfold Cn mZ
 rw [if_pos (by simpa using h),BA h,Option.bind_some]
 generalize s.Players[i]=e at *
 have hl:=uO hr hn (i:=(i:Int)) (e:=e) (kv:=kv) h1
 cases hg:e.Library.all (Co s 2 i)
 ·rw [hg,if_neg (by simp)]at hl
  obtain⟨r,hl⟩:=hl
  rw [hl]
  simp only [Option.bind_some,Sum.elim_inr,Bool.false_and,Bool.false_eq_true,if_false]
  unfold DV
  rw [if_neg (by simp)]
  exact tI _ _ rfl
 ·rw [hg,if_pos rfl]at hl
  rw [hl]
  simp only [Option.bind_some,Sum.elim_inl,Bool.true_and]
  unfold FF DV
  rw [if_pos (by simp)]
  have hl:=tG hr hn (i:=(i:Int)) (e:=e) (kv:=Fb kv e.Library) h2
  cases hg2:e.Hand.all (Co s 1 i)
  ·rw [hg2,if_neg (by simp)]at hl
   obtain⟨r,hl⟩:=hl
   rw [hl]
   simp only [Option.bind_some,Sum.elim_inr,Bool.false_and,Bool.false_eq_true,if_false]
   exact tI _ _ rfl
  ·rw [hg2,if_pos rfl]at hl
   rw [hl]
   simp only [Option.bind_some,Sum.elim_inl,Bool.true_and]
   unfold Gu
   rw [uP hr hn h3,S6,S6]
theorem ki {i:Nat} {kv:SM} (h:i<s.Stack.length):
 Cj s (i:Int) kv=some (if(!(s.Stack[i].Kind ==1)||Co s 5 (-1) s.Stack[i].Id)=true then .inl (Ab ((i:Int)+1),Fb kv (if(s.Stack[i].Kind ==1)=true then [s.Stack[i].Id]else []))else .inr (.inr ())):=by
 unfold Cj
 rw [if_pos (by simpa using h),BA h,Option.bind_some]
 generalize s.Stack[i]=e at *
 cases hk:e.Kind==1
 ·rw [if_neg (by simp)]
  unfold CN
  rw [hk]
  rfl
 ·rw [if_pos (by simp)]
  have hl:=vo hr hn (e:=e) (kv:=kv)
  cases hg:Co s 5 (-1) e.Id
  ·rw [hg,if_neg (by simp)]at hl
   obtain⟨r,hl⟩:=hl
   rw [hl]
   simp only [Option.bind_some,Sum.elim_inr]
   unfold CN
   rw [hk]
   rfl
  ·rw [hg,if_pos rfl]at hl
   rw [hl]
   simp only [Option.bind_some,Sum.elim_inl]
   unfold Gt CN
   rw [hk]
   rfl
end
def kj (s:Ai):Bool:=(List.range s.Players.length).all fun i=>mZ s i (s.Players.getD i default)
abbrev ga (l:List AB):List Int:=N5 AB.Library AB.Hand AB.Graveyard 0 l
def NC (s:Ai):List Int:=s.Battlefield++s.Exile++ga s.Players++Sb s.Stack
theorem ap (l:List Cb) (g:Int→Bool):(Sb l).all g=l.all fun x=> !(x.Kind==1)||g x.Id:=by
 unfold Sb
 rw [List.all_map,List.all_filter]
 rfl
structure Sz (s:Ai):Prop where
 o:s.Objects.length<4611686018427387903
 b:s.Battlefield.length<9223372036854775807
 e:s.Exile.length<9223372036854775807
 p:s.Players.length<9223372036854775807
 q: ∀ x∈s.Players,x.Library.length<9223372036854775807∧x.Hand.length<9223372036854775807∧x.Graveyard.length<9223372036854775807
 k:s.Stack.length<9223372036854775807
 w:s.Waiting.length<9223372036854775807
 c:s.Conts.length<9223372036854775807
 x:s.Extra.length<9223372036854775807
 all:s.Players.length≤4→(NC s).length <9223372036854775807
 ka: ∀ x∈s.Stack,dt x.Ability
 wa: ∀ x∈s.Waiting,dt x.Ability
 co: ∀ x∈s.Conts,x.Objects.length<9223372036854775807
theorem na {s:Ai} (hr:R9 Al.Id s.Objects) (z:Sz s) (hp:s.Players.length≤4):
 IH s=some (s.Battlefield.all (Co s 0 (-1))&&(s.Exile.all (Co s 4 (-1))&&(kj s&&((Sb s.Stack).all (Co s 5 (-1))&&s.Objects.all fun o=>(NC s).count o.Id==1)))):=by
 have hb:=vn hr z.o (kv:=[]) z.b
 have he:=vm hr z.o (kv:=Fb [] s.Battlefield) z.e
 have J6f: ∀ kv v q,(v&&q)=false→Da s v kv q=some false:=fun kv v q h=>by
  have hb:(if(!v)=true then true else !q)=true:=by cases v<;>cases q<;>simp_all
  unfold Da
  simp only [Option.bind_some,hb,if_true]
 unfold IH
 cases h1:s.Battlefield.all (Co s 0 (-1))
 ·rw [h1,if_neg (by simp)]at hb
  obtain⟨r,hb⟩:=hb
  rw [hb]
  simp only [Option.bind_some,Sum.elim_inr]
  unfold En
  rw [if_neg (by simp)]
  exact J6f _ _ _ rfl
 rw [h1,if_pos rfl]at hb
 rw [hb]
 simp only [Option.bind_some,Sum.elim_inl,Bool.true_and]
 unfold FH En
 rw [if_pos (by simp)]
 cases h2:s.Exile.all (Co s 4 (-1))
 ·rw [h2,if_neg (by simp)]at he
  obtain⟨r,he⟩:=he
  rw [he]
  simp only [Option.bind_some,Sum.elim_inr,Bool.false_and]
  exact J6f _ _ _ rfl
 rw [h2,if_pos rfl]at he
 rw [he]
 simp only [Option.bind_some,Sum.elim_inl,Bool.true_and]
 unfold FG Da
 simp only [Option.bind_some,Bool.not_true,Bool.false_eq_true,if_false]
 have hpl:=oY (K:=fun o0=>EY s o0) (a:=some false) (q:=fun i=>mZ s i (s.Players.getD i default)) (B:=fun(v:Int×SM)=>Cn s v.1 v.2) (s0:=(0,Fb (Fb [] s.Battlefield) s.Exile)) (fun i=>((i:Int),Fb (Fb (Fb [] s.Battlefield) s.Exile) (ga (s.Players.take i)))) (Fb (Fb (Fb [] s.Battlefield) s.Exile) (ga s.Players)) s.Players.length z.p (by simp [N5,Xg]) (fun i hi _=>by
  have hq:=z.q _ (List.getElem_mem hi)
  show if mZ s i (s.Players.getD i default)=true then Cn s (i:Int) _=_ else ∃ r,Cn s (i:Int) _=_
  rw [vp hr z.o hi hq.1 hq.2.1 hq.2.2,Cu hi,wrapS' (by omega), ←S6]
  cases mZ s i s.Players[i]
  ·exact⟨_,rfl⟩
  ·rw [if_pos rfl,if_pos rfl,O3 hi]
   unfold ga
   rw [YO]
   rfl) (by
  show Cn s _ _=_
  unfold Cn
  rw [if_neg (by simp),List.take_length])
 rw [hpl]
 unfold kj
 cases h3:(List.range s.Players.length).all fun i=>mZ s i (s.Players.getD i default)
 ·rfl
 rw [if_pos rfl,Bool.true_and]
 unfold EY
 generalize hkv:Fb (Fb (Fb [] s.Battlefield) s.Exile) (ga s.Players)=kv
 have hst:=oY (K:=fun o0=>EX s o0) (a:=some false) (q:=fun i=> !((s.Stack.getD i default).Kind ==1)||Co s 5 (-1) (s.Stack.getD i default).Id) (B:=fun(v:Int×SM)=>Cj s v.1 v.2) (s0:=(0,kv)) (fun i=>((i:Int),Fb kv (Sb (s.Stack.take i)))) (Fb kv (Sb s.Stack)) s.Stack.length z.k (by simp [Sb,Xg]) (fun i hi _=>by
  show if(!((s.Stack.getD i default).Kind ==1)||Co s 5 (-1) (s.Stack.getD i default).Id)=true then Cj s (i:Int) _=_ else ∃ r,Cj s (i:Int) _=_
  have:=z.k
  rw [ki hr z.o hi,Cu hi,wrapS' (by omega), ←S6, ←dy hi]
  cases (!(s.Stack[i].Kind ==1)||Co s 5 (-1) s.Stack[i].Id)
  ·exact⟨_,rfl⟩
  ·rfl) (by
  show Cj s _ _=_
  unfold Cj
  rw [if_neg (by simp),List.take_length])
 rw [hst,T9 s.Stack (fun x=> !(x.Kind==1)||Co s 5 (-1) x.Id), ←ap]
 cases h4:(Sb s.Stack).all (Co s 5 (-1))
 ·rfl
 rw [if_pos rfl,Bool.true_and]
 unfold EX
 have hc:ar (Fb kv (Sb s.Stack)) (NC s):=by
  have hl:=z.all hp
  unfold NC at hl ⊢
  simp only [List.length_append]at hl
  rw [←hkv]
  have c1:=O2 s.Battlefield ar.nil (by simp only [List.length_nil];omega)
  rw [List.nil_append]at c1
  have c2:=O2 s.Exile c1 (by omega)
  have c3:=O2 (ga s.Players) c2 (by simp only [List.length_append];omega)
  exact O2 (Sb s.Stack) c3 (by simp only [List.length_append];omega)
 have ho:=Ua (l:=s.Objects) (q:=fun o=>(NC s).count o.Id==1) (K:=Gr) (a:=some false) (B:=fun v=>Dl s (Fb kv (Sb s.Stack)) v) (by have:=z.o;omega) (fun i hi=>by
  show Dl s _ (i:Int)=_
  unfold Dl
  have:=z.o
  rw [if_pos (by simpa using hi),BA hi,Option.bind_some,hc,wrapS' (by omega)]
  have e:(((NC s).count s.Objects[i].Id :Int) != 1)= !((NC s).count s.Objects[i].Id ==1):=by rw [Bool.eq_iff_iff];simp;omega
  rw [e]
  cases (NC s).count s.Objects[i].Id ==1<;>rfl) (by
  show Dl s _ _=_
  unfold Dl;rw [if_neg (by simp)])
 rw [ho]
 exact jX _
end Go.PL
