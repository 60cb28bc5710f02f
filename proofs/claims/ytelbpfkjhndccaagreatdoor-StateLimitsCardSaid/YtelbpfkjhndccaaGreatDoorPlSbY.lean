/- Plain laws of states: the places of the objects. -/
import Derived.Test.YtelbpfkjhndccaaGreatDoorPlSbW
namespace Go.PL
open Go
set_option maxRecDepth 100000
set_option linter.all false
set_option maxHeartbeats 4000000
theorem lZ {α:Type} (b:Bool) (x y:α):(if b=true then some x else some y)=some (if b=true then x else y):=by cases b<;>rfl
abbrev SM:=List (Int×Int)
section
variable {s:Aj} (hr:Ss Ao.Id s.Objects) (hn:s.Objects.length<4611686018427387903)
include hr hn
theorem pc {i:Int} {e:Au} {kv:SM} (h:e.Library.length<9223372036854775807):if e.Library.all (DD s 2 i)=true then iter (fun(v:Int×SM)=>BX s i e v.1 v.2) FU (0,kv)=some (.inl (EM kv e.Library))else ∃ r,iter (fun(v:Int×SM)=>BX s i e v.1 v.2) FU (0,kv)=some (.inr r):=
 Om (ε:=Unit) (ρ:=Unit) (B:=fun(v:Int×SM)=>BX s i e v.1 v.2) h (fun k hk kv=>by
  show BX s i e (k:Int) kv=_
  unfold BX
  rw [if_pos (by simpa using hk),B8 hk]
  simp only [Option.bind_some,M1 hr hn,Rv,lZ]) (fun kv=>by
  show BX s i e _ kv=_
  unfold BX;rw [if_neg (by simp)])
theorem nL {i:Int} {e:Au} {kv:SM} (h:e.Hand.length<9223372036854775807):if e.Hand.all (DD s 1 i)=true then iter (fun(v:Int×SM)=>Cg s i e v.1 v.2) FU (0,kv)=some (.inl (EM kv e.Hand))else ∃ r,iter (fun(v:Int×SM)=>Cg s i e v.1 v.2) FU (0,kv)=some (.inr r):=
 Om (ε:=Unit) (ρ:=Unit) (B:=fun(v:Int×SM)=>Cg s i e v.1 v.2) h (fun k hk kv=>by
  show Cg s i e (k:Int) kv=_
  unfold Cg
  rw [if_pos (by simpa using hk),B8 hk]
  simp only [Option.bind_some,M1 hr hn,Rv,lZ]) (fun kv=>by
  show Cg s i e _ kv=_
  unfold Cg;rw [if_neg (by simp)])
theorem lG {i:Int} {e:Au} {kv:SM} (h:e.Graveyard.length<9223372036854775807):if e.Graveyard.all (DD s 3 i)=true then iter (fun(v:Int×SM)=>Ce s i e v.1 v.2) FU (0,kv)=some (.inl (EM kv e.Graveyard))else ∃ r,iter (fun(v:Int×SM)=>Ce s i e v.1 v.2) FU (0,kv)=some (.inr r):=
 Om (ε:=Unit) (ρ:=Unit) (B:=fun(v:Int×SM)=>Ce s i e v.1 v.2) h (fun k hk kv=>by
  show Ce s i e (k:Int) kv=_
  unfold Ce
  rw [if_pos (by simpa using hk),B8 hk]
  simp only [Option.bind_some,M1 hr hn,Rv,lZ]) (fun kv=>by
  show Ce s i e _ kv=_
  unfold Ce;rw [if_neg (by simp)])
theorem pN {kv:SM} (h:s.Exile.length<9223372036854775807):if s.Exile.all (DD s 4 (-1))=true then iter (fun(v:Int×SM)=>BY s v.1 v.2) FU (0,kv)=some (.inl (EM kv s.Exile))else ∃ r,iter (fun(v:Int×SM)=>BY s v.1 v.2) FU (0,kv)=some (.inr r):=
 Om (ε:=Unit) (ρ:=Unit) (B:=fun(v:Int×SM)=>BY s v.1 v.2) h (fun k hk kv=>by
  show BY s (k:Int) kv=_
  unfold BY
  rw [if_pos (by simpa using hk),B8 hk]
  simp only [Option.bind_some,M1 hr hn,Rv,lZ]) (fun kv=>by
  show BY s _ kv=_
  unfold BY;rw [if_neg (by simp)])
theorem pO {kv:SM} (h:s.Battlefield.length<9223372036854775807):if s.Battlefield.all (DD s 0 (-1))=true then iter (fun(v:Int×SM)=>BZ s v.1 v.2) FU (0,kv)=some (.inl (EM kv s.Battlefield))else ∃ r,iter (fun(v:Int×SM)=>BZ s v.1 v.2) FU (0,kv)=some (.inr r):=
 Om (ε:=Unit) (ρ:=Unit) (B:=fun(v:Int×SM)=>BZ s v.1 v.2) h (fun k hk kv=>by
  show BZ s (k:Int) kv=_
  unfold BZ
  rw [if_pos (by simpa using hk),B8 hk]
  simp only [Option.bind_some,M1 hr hn,Rv,lZ]) (fun kv=>by
  show BZ s _ kv=_
  unfold BZ;rw [if_neg (by simp)])
theorem pP {e:Bw} {kv:SM}:if DD s 5 (-1) e.Id=true then iter (fun(v:Int×SM)=>Cc s e v.1 v.2) FU (0,kv)=some (.inl (EM kv [e.Id]))else ∃ r,iter (fun(v:Int×SM)=>Cc s e v.1 v.2) FU (0,kv)=some (.inr r):=by
 have:=Om (ε:=Unit) (ρ:=Unit) (l:=[e.Id]) (kv:=kv) (good:=DD s 5 (-1)) (B:=fun(v:Int×SM)=>Cc s e v.1 v.2) (by simp) (fun k hk kv=>by
  show Cc s e (k:Int) kv=_
  unfold Cc
  rw [if_pos (by have:k<1:=hk;simp only [List.length_cons,List.length_nil,bz];omega),B8 hk]
  simp only [Option.bind_some,M1 hr hn,Rv,lZ]) (fun kv=>by
  show Cc s e _ kv=_
  unfold Cc;rw [if_neg (by simp)])
 simpa using this
def lH (s:Aj) (i:Int) (p:Au):Bool:=p.Library.all (DD s 2 i)&&(p.Hand.all (DD s 1 i)&&p.Graveyard.all (DD s 3 i))
omit hr hn in
theorem nM (i:Int) (b:Bool) (kv:SM):Db i b kv false=some (.inr (.inr ())):=by
 unfold Db;cases b<;>rfl
theorem pd {i:Int} {e:Au} {kv:SM} (h:e.Graveyard.length<9223372036854775807):Cf s i e true kv true=some (if e.Graveyard.all (DD s 3 i)=true then .inl (Ab (i+1),EM kv e.Graveyard)else .inr (.inr ())):=by
 have hl:=lG hr hn (i:=i) (e:=e) (kv:=kv) h
 unfold Cf
 simp only [Option.bind_some,Bool.not_true,Bool.false_eq_true,if_false,beq_self_eq_true,if_true]
 cases hg:e.Graveyard.all (DD s 3 i)
 ·rw [hg,if_neg (by simp)]at hl
  obtain⟨r,hl⟩:=hl
  rw [hl]
  simp only [Option.bind_some,Sum.elim_inr,nM,Bool.false_eq_true,if_false]
 ·rw [hg,if_pos rfl]at hl
  rw [hl]
  rfl
omit hr hn in
theorem nO {i:Int} {e:Au} {kv:SM} (v q:Bool) (h:(v&&q)=false):Cf s i e v kv q=some (.inr (.inr ())):=by
 have hb:(if(!v)=true then true else !q)=true:=by cases v<;>cases q<;>simp_all
 unfold Cf
 simp only [Option.bind_some,hb]
 rw [if_neg (by simp)]
 exact nM _ _ _
theorem pQ {i:Nat} {kv:SM} (h:i<s.Players.length) (h1:s.Players[i].Library.length <9223372036854775807) (h2:s.Players[i].Hand.length <9223372036854775807) (h3:s.Players[i].Graveyard.length <9223372036854775807):
 Ch s (i:Int) kv=some (if lH s i s.Players[i]=true then .inl (Ab ((i:Int)+1),EM kv (s.Players[i].Library ++s.Players[i].Hand ++s.Players[i].Graveyard))else .inr (.inr ())):=by
 unfold Ch lH
 rw [if_pos (by simpa using h),B8 h,Option.bind_some]
 generalize s.Players[i]=e at *
 have hl:=pc hr hn (i:=(i:Int)) (e:=e) (kv:=kv) h1
 cases hg:e.Library.all (DD s 2 i)
 ·rw [hg,if_neg (by simp)]at hl
  obtain⟨r,hl⟩:=hl
  rw [hl]
  simp only [Option.bind_some,Sum.elim_inr,Bool.false_and,Bool.false_eq_true,if_false]
  unfold DM
  rw [if_neg (by simp)]
  exact nO _ _ rfl
 ·rw [hg,if_pos rfl]at hl
  rw [hl]
  simp only [Option.bind_some,Sum.elim_inl,Bool.true_and]
  unfold E5 DM
  rw [if_pos (by simp)]
  have hl:=nL hr hn (i:=(i:Int)) (e:=e) (kv:=EM kv e.Library) h2
  cases hg2:e.Hand.all (DD s 1 i)
  ·rw [hg2,if_neg (by simp)]at hl
   obtain⟨r,hl⟩:=hl
   rw [hl]
   simp only [Option.bind_some,Sum.elim_inr,Bool.false_and,Bool.false_eq_true,if_false]
   exact nO _ _ rfl
  ·rw [hg2,if_pos rfl]at hl
   rw [hl]
   simp only [Option.bind_some,Sum.elim_inl,Bool.true_and]
   unfold FF
   rw [pd hr hn h3,Qu,Qu]
theorem gj {i:Nat} {kv:SM} (h:i<s.Stack.length):
 Cd s (i:Int) kv=some (if(!(s.Stack[i].Kind ==1)||DD s 5 (-1) s.Stack[i].Id)=true then .inl (Ab ((i:Int)+1),EM kv (if(s.Stack[i].Kind ==1)=true then [s.Stack[i].Id]else []))else .inr (.inr ())):=by
 unfold Cd
 rw [if_pos (by simpa using h),B8 h,Option.bind_some]
 generalize s.Stack[i]=e at *
 cases hk:e.Kind==1
 ·rw [if_neg (by simp)]
  unfold CC
  rw [hk]
  rfl
 ·rw [if_pos (by simp)]
  have hl:=pP hr hn (e:=e) (kv:=kv)
  cases hg:DD s 5 (-1) e.Id
  ·rw [hg,if_neg (by simp)]at hl
   obtain⟨r,hl⟩:=hl
   rw [hl]
   simp only [Option.bind_some,Sum.elim_inr]
   unfold CC
   rw [hk]
   rfl
  ·rw [hg,if_pos rfl]at hl
   rw [hl]
   simp only [Option.bind_some,Sum.elim_inl]
   unfold FE CC
   rw [hk]
   rfl
end
def iU (s:Aj):Bool:=(List.range s.Players.length).all fun i=>lH s i (s.Players.getD i default)
abbrev ZE (l:List Au):List Int:=NY Au.Library Au.Hand Au.Graveyard 0 l
def JU (s:Aj):List Int:=s.Battlefield++s.Exile++ZE s.Players++Qv s.Stack
theorem cy (l:List Bw) (g:Int→Bool):(Qv l).all g=l.all fun x=> !(x.Kind==1)||g x.Id:=by
 unfold Qv
 rw [List.all_map,List.all_filter]
 rfl
structure Sz (s:Aj):Prop where
 o:s.Objects.length<4611686018427387903
 b:s.Battlefield.length<9223372036854775807
 e:s.Exile.length<9223372036854775807
 p:s.Players.length<9223372036854775807
 q: ∀ x∈s.Players,x.Library.length<9223372036854775807∧x.Hand.length<9223372036854775807∧x.Graveyard.length<9223372036854775807
 k:s.Stack.length<9223372036854775807
 w:s.Waiting.length<9223372036854775807
 c:s.Conts.length<9223372036854775807
 x:s.Extra.length<9223372036854775807
 all:s.Players.length≤4→(JU s).length <9223372036854775807
 ka: ∀ x∈s.Stack,gb x.Ability
 wa: ∀ x∈s.Waiting,gb x.Ability
 co: ∀ x∈s.Conts,x.Objects.length<9223372036854775807
theorem gk {s:Aj} (hr:Ss Ao.Id s.Objects) (z:Sz s) (hp:s.Players.length≤4):
 HF s=some (s.Battlefield.all (DD s 0 (-1))&&(s.Exile.all (DD s 4 (-1))&&(iU s&&((Qv s.Stack).all (DD s 5 (-1))&&s.Objects.all fun o=>(JU s).count o.Id==1)))):=by
 have hb:=pO hr z.o (kv:=[]) z.b
 have he:=pN hr z.o (kv:=EM [] s.Battlefield) z.e
 have J6f: ∀ kv v q,(v&&q)=false→CZ s v kv q=some false:=fun kv v q h=>by
  have hb:(if(!v)=true then true else !q)=true:=by cases v<;>cases q<;>simp_all
  unfold CZ
  simp only [Option.bind_some,hb,if_true]
 unfold HF
 cases h1:s.Battlefield.all (DD s 0 (-1))
 ·rw [h1,if_neg (by simp)]at hb
  obtain⟨r,hb⟩:=hb
  rw [hb]
  simp only [Option.bind_some,Sum.elim_inr]
  unfold D9
  rw [if_neg (by simp)]
  exact J6f _ _ _ rfl
 rw [h1,if_pos rfl]at hb
 rw [hb]
 simp only [Option.bind_some,Sum.elim_inl,Bool.true_and]
 unfold E7 D9
 rw [if_pos (by simp)]
 cases h2:s.Exile.all (DD s 4 (-1))
 ·rw [h2,if_neg (by simp)]at he
  obtain⟨r,he⟩:=he
  rw [he]
  simp only [Option.bind_some,Sum.elim_inr,Bool.false_and]
  exact J6f _ _ _ rfl
 rw [h2,if_pos rfl]at he
 rw [he]
 simp only [Option.bind_some,Sum.elim_inl,Bool.true_and]
 unfold E6 CZ
 simp only [Option.bind_some,Bool.not_true,Bool.false_eq_true,if_false]
 have hpl:=iR (K:=fun o0=>Ez s o0) (a:=some false) (q:=fun i=>lH s i (s.Players.getD i default)) (B:=fun(v:Int×SM)=>Ch s v.1 v.2) (s0:=(0,EM (EM [] s.Battlefield) s.Exile)) (fun i=>((i:Int),EM (EM (EM [] s.Battlefield) s.Exile) (ZE (s.Players.take i)))) (EM (EM (EM [] s.Battlefield) s.Exile) (ZE s.Players)) s.Players.length z.p (by simp [NY,UU]) (fun i hi _=>by
  have hq:=z.q _ (List.getElem_mem hi)
  show if lH s i (s.Players.getD i default)=true then Ch s (i:Int) _=_ else ∃ r,Ch s (i:Int) _=_
  rw [pQ hr z.o hi hq.1 hq.2.1 hq.2.2,GJ hi,wrapS' (by omega), ←Qu]
  cases lH s i s.Players[i]
  ·exact⟨_,rfl⟩
  ·rw [if_pos rfl,if_pos rfl,Ol hi]
   unfold ZE
   rw [WK]
   rfl) (by
  show Ch s _ _=_
  unfold Ch
  rw [if_neg (by simp),List.take_length])
 rw [hpl]
 unfold iU
 cases h3:(List.range s.Players.length).all fun i=>lH s i (s.Players.getD i default)
 ·rfl
 rw [if_pos rfl,Bool.true_and]
 unfold Ez
 generalize hkv:EM (EM (EM [] s.Battlefield) s.Exile) (ZE s.Players)=kv
 have hst:=iR (K:=fun o0=>Ey s o0) (a:=some false) (q:=fun i=> !((s.Stack.getD i default).Kind ==1)||DD s 5 (-1) (s.Stack.getD i default).Id) (B:=fun(v:Int×SM)=>Cd s v.1 v.2) (s0:=(0,kv)) (fun i=>((i:Int),EM kv (Qv (s.Stack.take i)))) (EM kv (Qv s.Stack)) s.Stack.length z.k (by simp [Qv,UU]) (fun i hi _=>by
  show if(!((s.Stack.getD i default).Kind ==1)||DD s 5 (-1) (s.Stack.getD i default).Id)=true then Cd s (i:Int) _=_ else ∃ r,Cd s (i:Int) _=_
  have:=z.k
  rw [gj hr z.o hi,GJ hi,wrapS' (by omega), ←Qu, ←gg hi]
  cases (!(s.Stack[i].Kind ==1)||DD s 5 (-1) s.Stack[i].Id)
  ·exact⟨_,rfl⟩
  ·rfl) (by
  show Cd s _ _=_
  unfold Cd
  rw [if_neg (by simp),List.take_length])
 rw [hst,Rt s.Stack (fun x=> !(x.Kind==1)||DD s 5 (-1) x.Id), ←cy]
 cases h4:(Qv s.Stack).all (DD s 5 (-1))
 ·rfl
 rw [if_pos rfl,Bool.true_and]
 unfold Ey
 have hc:X1 (EM kv (Qv s.Stack)) (JU s):=by
  have hl:=z.all hp
  unfold JU at hl ⊢
  simp only [List.length_append]at hl
  rw [←hkv]
  have c1:=Mb s.Battlefield X1.nil (by simp only [List.length_nil];omega)
  rw [List.nil_append]at c1
  have c2:=Mb s.Exile c1 (by omega)
  have c3:=Mb (ZE s.Players) c2 (by simp only [List.length_append];omega)
  exact Mb (Qv s.Stack) c3 (by simp only [List.length_append];omega)
 have ho:=XS (l:=s.Objects) (q:=fun o=>(JU s).count o.Id==1) (K:=FD) (a:=some false) (B:=fun v=>Da s (EM kv (Qv s.Stack)) v) (by have:=z.o;omega) (fun i hi=>by
  show Da s _ (i:Int)=_
  unfold Da
  have:=z.o
  rw [if_pos (by simpa using hi),B8 hi,Option.bind_some,hc,wrapS' (by omega)]
  have e:(((JU s).count s.Objects[i].Id :Int) != 1)= !((JU s).count s.Objects[i].Id ==1):=by rw [Bool.eq_iff_iff];simp;omega
  rw [e]
  cases (JU s).count s.Objects[i].Id ==1<;>rfl) (by
  show Da s _ _=_
  unfold Da;rw [if_neg (by simp)])
 rw [ho]
 exact nn _
end Go.PL
