/- Plain laws of states: numbers; the reference's definition. -/
import Derived.Test.YtelbpfkjhndccaaGreatDoorPlSbZ
namespace Go.PL
open Go
set_option maxRecDepth 100000
set_option linter.all false
set_option maxHeartbeats 4000000
def dC (s:Ai):Bool:=G7 s.Turn 0 500&&(G7 s.Active 0 ((s.Players.length:Int) - 1)&&(G7 s.Priority 0 ((s.Players.length:Int) - 1)&&(G7 s.Step 0 10&&(G7 s.Passes 0 s.Players.length&&(G7 s.NextId 1 1000000&&(G7 s.NextStamp 1 1000000&&(decide ((s.Extra.length:Int)≤500)&&if(s.Over==1)=true then G7 s.Winner 0 ((s.Players.length:Int) - 1)else G7 s.Over 0 2&&(s.Winner== -1))))))))
def km (s:Ai):Bool:=s.Extra.all fun p=>G7 p 0 ((s.Players.length:Int) - 1)
theorem uQ {n:Nat} (h:n<9223372036854775807):Ab ((n:Int) - 1+1)=n:=by rw [BD (by omega) (by omega)];omega
theorem gg {s:Ai} (z:Sz s):Jk s=some (km s&&dC s):=by
 have zx:=z.x
 unfold Jk km
 rw [Ua (l:=s.Extra) (q:=fun p=>G7 p 0 ((s.Players.length:Int) - 1)) (B:=fun v=>CX s v) z.x (fun i hi=>by
  show CX s (i:Int)=_
  unfold CX
  rw [if_pos (by simpa using hi),BA hi]
  simp only [Option.bind_some,Xh,dz z.p]
  exact ah (by omega)) (by
  show CX s _=_
  unfold CX;rw [if_neg (by simp)])]
 unfold Gb dC
 have e:decide ((500:Int)<(s.Extra.length:Int))= !decide ((s.Extra.length:Int)≤500):=by rw [Bool.eq_iff_iff];simp
 simp only [Option.bind_some,Xh,dz z.p,uQ z.p,e,Ph,Sd,PP,bF,Bool.not_not,nq,uM,Bool.not_or,gb,aas',Bool.and_assoc]
structure Sy (s:Ai):Prop where
 z:Sz s
 b:s.Battlefield.length*8≤140737488355328
 e:s.Exile.length*8≤140737488355328
 q: ∀ x∈s.Players,x.Library.length*8≤140737488355328∧x.Hand.length*8≤140737488355328∧x.Graveyard.length*8≤140737488355328
theorem Xi {l:List Int} (h:l.length*8≤140737488355328):Kp l=some l:=by
 unfold Kp
 rw [bm ⟨by simpa using h,by unfold maxLen;simp;omega⟩];rfl
def rl (s:Ai) (z w:Int) (l:List Int):Bool:=l.all fun k=>Co s z w k&&l.count k==1
def rX (s:Ai) (i:Nat):Bool:=nr (s.Players.getD i default)&&(rl s 2 i (s.Players.getD i default).Library &&(rl s 1 i (s.Players.getD i default).Hand &&rl s 3 i (s.Players.getD i default).Graveyard))
theorem gj {s:Ai} (y:Sy s):Ka s=some (G7 s.Players.length 2 4&&((List.range s.Players.length).all (rX s)&&(rl s 0 (-1) s.Battlefield&&rl s 4 (-1) s.Exile))):=by
 have z:=y.z
 have zo:s.Objects.length<9223372036854775807:=by have:=z.o;omega
 unfold Ka
 rw [UE,Option.bind_some]
 cases G7 s.Players.length 2 4
 ·rfl
 rw [if_neg (by simp),Bool.true_and]
 rw [Z8 (p:=rX s) (K:=Gx s) (a:=some false) (B:=fun v=>D9 s v) s.Players.length z.p (fun i hi=>by
  show D9 s (i:Int)=_
  have hq:=z.q _ (List.getElem_mem hi)
  have zp:=z.p
  unfold D9 rX
  rw [if_pos (by simpa using hi),BA hi,Cu hi]
  generalize s.Players[i]=p at *
  simp only [Option.bind_some,UE,mu,S7 zo hq.1,S7 zo hq.2.1,S7 zo hq.2.2,Sd,PP,bF,Bool.not_not,Bool.not_or,gb,aas',Bool.and_assoc]
  rw [wrapS' (by omega)]
  unfold nr rl
  cases G7 p.Life (-1000000) 1000000
  ·rfl
  cases G7 p.Venom 0 1000000
  ·rfl
  cases G7 p.Lands 0 1000000
  ·rfl
  cases W8 p.Pool
  ·rfl
  simp only [Bool.and_self,Bool.not_true,Bool.or_self,Bool.false_eq_true,if_false,Bool.true_and]
  cases (p.Library.all fun k=>Co s 2 (i:Int) k&&p.Library.count k==1)
  ·rfl
  cases (p.Hand.all fun k=>Co s 1 (i:Int) k&&p.Hand.count k==1)
  ·rfl
  cases (p.Graveyard.all fun k=>Co s 3 (i:Int) k&&p.Graveyard.count k==1)<;>rfl) (by
  show D9 s _=_
  unfold D9;rw [if_neg (by simp)])]
 unfold Gx
 rw [S7 zo z.b,S7 zo z.e]
 simp only [Option.bind_some,Sd,Ph,bT,aas']
 unfold rl
 cases (List.range s.Players.length).all (rX s)<;>rfl
def XT (s:Ai) (o:Al):Nat:=Xf Al.Id Al.Zone Al.Owner AB.Library AB.Hand AB.Graveyard s.Battlefield s.Exile (Sb s.Stack) s.Players o
theorem rY {s:Ai} (y:Sy s) (o:Al) (h: ¬o.Zone=5): ∃ l,Qw s o.Zone o.Owner=some l∧l.length<9223372036854775807∧l.count o.Id=XT s o:=by
 have hb:=y.b
 have he:=y.e
 have zp:=y.z.p
 unfold Qw XT Xf
 rw [if_neg h]
 by_cases h0:o.Zone=0
 ·rw [if_pos (by simpa using h0),if_pos h0,Xi hb]
  exact⟨_,rfl,by omega,rfl⟩
 rw [if_neg (by simpa using h0),if_neg h0]
 by_cases h4:o.Zone=4
 ·rw [if_pos (by simpa using h4),if_pos h4,Xi he]
  exact⟨_,rfl,by omega,rfl⟩
 rw [if_neg (by simpa using h4),if_neg h4,Option.bind_some]
 by_cases hw:0≤o.Owner∧o.Owner<s.Players.length
 ·have hi:o.Owner.toNat<s.Players.length:=by omega
  have hq:=y.q _ (List.getElem_mem hi)
  have e:idx s.Players o.Owner=some s.Players[o.Owner.toNat]:=by
   have:=BA hi
   rwa [Int.toNat_of_nonneg hw.1]at this
  rw [if_neg (by simp;omega),e,List.getElem?_eq_getElem hi]
  simp only [Option.bind_some]
  rw [if_pos hw.1]
  generalize s.Players[o.Owner.toNat]=p at *
  by_cases h1:o.Zone=1
  ·rw [if_pos (by simpa using h1),if_neg (by omega),if_pos h1,Xi hq.2.1]
   exact⟨_,rfl,by omega,rfl⟩
  rw [if_neg (by simpa using h1)]
  by_cases h2:o.Zone=2
  ·rw [if_pos (by simpa using h2),if_pos h2,Xi hq.1]
   exact⟨_,rfl,by omega,rfl⟩
  rw [if_neg (by simpa using h2),if_neg h2,if_neg h1]
  by_cases h3:o.Zone=3
  ·rw [if_pos (by simpa using h3),if_pos h3,Xi hq.2.2]
   exact⟨_,rfl,by omega,rfl⟩
  rw [if_neg (by simpa using h3),if_neg h3]
  exact⟨_,rfl,by simp,rfl⟩
 ·rw [if_pos (by simp;omega)]
  refine⟨_,rfl,by simp,?_⟩
  split
  ·rename_i p hp
   have:=(List.getElem?_eq_some_iff.1 hp).1
   rw [if_neg (by omega)];rfl
  ·rfl
theorem nf {s:Ai} (y:Sy s) (o:Al):Ny s o=some (XT s o==1):=by
 unfold Ny
 by_cases h:o.Zone=5
 ·rw [if_pos (by simpa using h),mY y.z.k]
  have e:XT s o=(Sb s.Stack).count o.Id:=by
   unfold XT Xf
   rw [if_pos h]
  rw [e,Option.bind_some]
  congr 1
  rw [Bool.eq_iff_iff];simp;omega
 ·obtain⟨l,h1,h2,h3⟩:=rY y o h
  rw [if_neg (by simpa using h),h1,Option.bind_some,iA h2,h3,Option.bind_some]
  congr 1
  rw [Bool.eq_iff_iff];simp;omega
def rZ (nc:Int) (s:Ai) (i:Nat):Bool:=(ao (s.Objects.getD i default) nc s.Players.length&&(decide ((s.Objects.getD i default).Id <s.NextId)&&(decide ((s.Objects.getD i default).Stamp <s.NextStamp)&&(decide (i=0)||decide ((s.Objects.getD (i - 1) default).Id <(s.Objects.getD i default).Id)))))&&XT s (s.Objects.getD i default)==1
theorem gk {s:Ai} (y:Sy s) (cs:List E1):J8 cs s=some (decide ((s.Objects.length:Int)≤2048)&&(List.range s.Objects.length).all (rZ cs.length s)):=by
 have z:=y.z
 have zo:=z.o
 unfold J8
 have e:decide ((2048:Int)<(s.Objects.length:Int))= !decide ((s.Objects.length:Int)≤2048):=by rw [Bool.eq_iff_iff];simp
 rw [e]
 cases decide ((s.Objects.length:Int)≤2048)
 ·rfl
 rw [if_neg (by simp),Bool.true_and]
 rw [Z8 (p:=rZ cs.length s) (K:=H2) (a:=some false) (B:=fun v=>D8 cs s v) s.Objects.length (by omega) (fun i hi=>by
  show D8 cs s (i:Int)=_
  unfold D8 rZ
  rw [if_pos (by simpa using hi),BA hi,Cu hi]
  simp only [Option.bind_some,tF,nf y]
  have hidx: ∀ g:Bool, ∃ e11,gd (g&&(decide ((0:Int)<(i:Int))==true)) (idx s.Objects (Ab ((i:Int) - (1:Int))))=some e11∧((g&&(decide ((0:Int)<(i:Int))==true))=true→e11=s.Objects.getD (i - 1) default):=fun g=>by
   by_cases h0:i=0
   ·subst h0
    rw [show (decide ((0:Int)<((0:Nat):Int))==true)=false from rfl,Bool.and_false]
    exact⟨_,rfl,fun h=>by cases h⟩
   ·have hx:idx s.Objects (Ab ((i:Int) - 1))=some (s.Objects.getD (i - 1) default):=by
     rw [BD (by omega) (by omega),show ((i:Int) - 1)=((i - 1:Nat):Int) by omega,RB (by omega)]
    rw [hx,Rh]
    exact⟨_,rfl,fun h=>if_pos h⟩
  generalize hb:(if(if(!ao s.Objects[i] (cs.length:Int) (s.Players.length:Int))=true then true else decide (s.NextId≤s.Objects[i].Id))=true then true else decide (s.NextStamp≤s.Objects[i].Stamp))=b
  obtain⟨e11,h1,h2⟩:=hidx (b==false)
  rw [h1]
  simp only [Option.bind_some]
  have q2:decide (s.NextId≤s.Objects[i].Id)= !decide (s.Objects[i].Id <s.NextId):=by rw [Bool.eq_iff_iff];simp
  have q3:decide (s.NextStamp≤s.Objects[i].Stamp)= !decide (s.Objects[i].Stamp <s.NextStamp):=by rw [Bool.eq_iff_iff];simp
  rw [q2,q3]at hb
  rw [wrapS' (by omega)]
  subst hb
  revert h2
  cases ao s.Objects[i] cs.length s.Players.length
  ·intro _;rfl
  cases decide (s.Objects[i].Id <s.NextId)
  ·intro _;rfl
  cases decide (s.Objects[i].Stamp <s.NextStamp)
  ·intro _;rfl
  intro h2
  by_cases h0:i=0
  ·rw [decide_eq_true h0,decide_eq_false (p:=(0:Int)<(i:Int)) (by omega)]
   cases XT s s.Objects[i]==1<;>rfl
  ·rw [decide_eq_false h0,decide_eq_true (p:=(0:Int)<(i:Int)) (by omega)]at *
   rw [h2 rfl]
   have q4:decide (s.Objects[i].Id ≤(s.Objects.getD (i - 1) default).Id)= !decide ((s.Objects.getD (i - 1) default).Id <s.Objects[i].Id):=by rw [Bool.eq_iff_iff];simp
   rw [q4]
   cases decide ((s.Objects.getD (i - 1) default).Id <s.Objects[i].Id)<;>cases XT s s.Objects[i]==1<;>rfl) (by
  show D8 cs s _=_
  unfold D8;rw [if_neg (by simp)])]
 exact jX _
def sj (s:Ai) (x:Cb):Bool:=if(x.Kind==1)=true then(x.Source==x.Id)&&((Ou s x.Id).2&&((Ou s x.Id).1.Zone ==5&&(PO x.Ability||ep x.Ability)))else(x.Kind==2)&&(!(Ou s x.Id).2&&ep x.Ability)
theorem ph {s:Ai} (z:Sz s) {x:Cb} (hl:dt x.Ability):QM s x=some (si s x&&sj s x):=by
 have zo:s.Objects.length<9223372036854775807:=by have:=z.o;omega
 have e:decide ((4:Int)<(x.Targets.length:Int))= !decide ((x.Targets.length:Int)≤4):=by rw [Bool.eq_iff_iff];simp
 have hp:Dd s x.Control=some (G7 x.Control 0 ((s.Players.length:Int) - 1)):=by
  unfold Dd;rw [UE,dz z.p];rfl
 have hz:OY x.Ability pd=some (PO x.Ability):=pf hl
 unfold QM si sj
 simp only [UE,hp,mX zo,qd hl,e,Option.bind_some,Sd,PP,bF,Bool.not_not,Bool.not_or,gb,aas',Bool.and_assoc]
 cases G7 x.Id 1 (Ab (s.NextId - 1))
 ·rfl
 cases G7 x.X 0 1000000
 ·rfl
 cases decide ((x.Targets.length:Int)≤4)
 ·rfl
 cases G7 x.Control 0 ((s.Players.length:Int) - 1)
 ·rfl
 simp only [Bool.and_self,Bool.not_true,Bool.or_self,Bool.false_eq_true,if_false,Bool.true_and]
 cases hk:x.Kind==1
 ·simp only [Bool.false_eq_true,if_false,Ph,bT,aas',Bool.and_assoc]
  cases x.Kind==2<;>cases (Ou s x.Id).2<;>cases ep x.Ability<;>rfl
 ·rw [if_pos rfl,if_pos rfl]
  refine(congrArg (fun o:Option Bool=>o.bind _) hz).trans ?_
  simp only [Option.bind_some,Ph,bT]
  cases x.Source==x.Id<;>cases (Ou s x.Id).2<;>cases (Ou s x.Id).1.Zone ==5<;>cases PO x.Ability<;>cases ep x.Ability<;>rfl
def pi (s:Ai) (i:Nat):Bool:=(si s (s.Stack.getD i default)&&sj s (s.Stack.getD i default))&&(List.range i).all fun k=> !((s.Stack.getD k default).Id ==(s.Stack.getD i default).Id)
theorem ng {s:Ai} (z:Sz s):MR s=some ((decide ((s.Stack.length:Int)≤64)&&(decide ((s.Waiting.length:Int)≤64)&&decide ((s.Conts.length:Int)≤64)))&&((List.range s.Stack.length).all (pi s)&&(s.Waiting.all (ne s)&&s.Conts.all (ns s)))):=by
 have zk:=z.k
 have zw:=z.w
 have zc:=z.c
 have e1:decide ((64:Int)<(s.Stack.length:Int))= !decide ((s.Stack.length:Int)≤64):=by rw [Bool.eq_iff_iff];simp
 have e2:decide ((64:Int)<(s.Waiting.length:Int))= !decide ((s.Waiting.length:Int)≤64):=by rw [Bool.eq_iff_iff];simp
 have e3:decide ((64:Int)<(s.Conts.length:Int))= !decide ((s.Conts.length:Int)≤64):=by rw [Bool.eq_iff_iff];simp
 have hp: ∀ c,Dd s c=some (G7 c 0 ((s.Players.length:Int) - 1)):=fun c=>by
  unfold Dd;rw [UE,dz z.p];rfl
 unfold MR
 simp only [Option.bind_some,e1,e2,e3]
 have hb:(if(if(!decide ((s.Stack.length:Int)≤64))=true then true else !decide ((s.Waiting.length:Int)≤64))=true then true else !decide ((s.Conts.length:Int)≤64))= !(decide ((s.Stack.length:Int)≤64)&&(decide ((s.Waiting.length:Int)≤64)&&decide ((s.Conts.length:Int)≤64))):=by
  cases decide ((s.Stack.length:Int)≤64)<;>cases decide ((s.Waiting.length:Int)≤64)<;>cases decide ((s.Conts.length:Int)≤64)<;>rfl
 rw [hb]
 cases (decide ((s.Stack.length:Int)≤64)&&(decide ((s.Waiting.length:Int)≤64)&&decide ((s.Conts.length:Int)≤64)))
 ·rfl
 rw [if_neg (by simp),Bool.true_and]
 rw [Z8 (p:=pi s) (K:=IY s) (a:=some false) (B:=fun v=>EM s v) s.Stack.length zk (fun i hi=>by
  show EM s (i:Int)=_
  unfold EM pi
  rw [if_pos (by simpa using hi),BA hi,Option.bind_some,ph z (z.ka _ (List.getElem_mem hi)),Cu hi,Option.bind_some]
  cases (si s s.Stack[i]&&sj s s.Stack[i])
  ·rfl
  rw [if_neg (by simp),Bool.true_and]
  have hin:iter (fun v=>Ds s (i:Int) v) FU 0=some (if((List.range i).all fun k=> !((s.Stack.getD k default).Id ==s.Stack[i].Id))=true then .inl ()else .inr ()):=by
   have:=rT (q:=fun k=> !((s.Stack.getD k default).Id ==s.Stack[i].Id)) (B:=fun v=>Ds s (i:Int) v) (s0:=0) (fun k=>(k:Int)) () i (by omega) rfl (fun k hk _=>by
    show if(!((s.Stack.getD k default).Id ==s.Stack[i].Id))=true then Ds s (i:Int) (k:Int)=_ else ∃ r,Ds s (i:Int) (k:Int)=_
    unfold Ds
    rw [if_pos (show decide ((k:Int)<(i:Int))=true by simpa using hk),BA (show k<s.Stack.length by omega),BA hi,Cu (show k<s.Stack.length by omega),wrapS' (by omega)]
    simp only [Option.bind_some]
    cases s.Stack[k].Id ==s.Stack[i].Id
    ·rfl
    ·exact⟨_,rfl⟩) (by
    show Ds s (i:Int) (i:Int)=_
    unfold Ds
    rw [if_neg (by simp)])
   cases hq:(List.range i).all fun k=> !((s.Stack.getD k default).Id ==s.Stack[i].Id)
   ·rw [hq,if_neg (by simp)]at this
    obtain⟨r,this⟩:=this
    exact this
   ·rw [hq,if_pos rfl]at this
    exact this
  rw [hin,Option.bind_some]
  cases (List.range i).all fun k=> !((s.Stack.getD k default).Id ==s.Stack[i].Id)
  ·rfl
  ·show HA (i:Int)=_
   unfold HA
   rw [wrapS' (by omega)];rfl) (by
  show EM s _=_
  unfold EM;rw [if_neg (by simp)])]
 unfold IY
 rw [Ua (l:=s.Waiting) (q:=ne s) (K:=IX s) (a:=some false) (B:=fun v=>EL s v) zw (fun i hi=>by
  show EL s (i:Int)=_
  unfold EL
  have hl:=z.wa _ (List.getElem_mem hi)
  rw [if_pos (by simpa using hi),BA hi]
  generalize s.Waiting[i]=w at *
  have e:(w.Ability.Kind != 4)= !(w.Ability.Kind==4):=rfl
  simp only [Option.bind_some,hp,qd hl,e,Sd,PP,bF]
  rw [wrapS' (by omega)]
  refine rW ?_
  unfold ne
  cases G7 w.Control 0 ((s.Players.length:Int) - 1)<;>cases w.Ability.Kind==4<;>cases ep w.Ability<;>rfl) (by
  show EL s _=_
  unfold EL;rw [if_neg (by simp)])]
 unfold IX
 rw [Ua (l:=s.Conts) (q:=ns s) (K:=IW) (a:=some false) (B:=fun v=>FL s v) zc (fun i hi=>by
  show FL s (i:Int)=_
  unfold FL
  obtain⟨w,w1,w2,w3⟩:=ai s.Conts[i].Mods
  have hco:=z.co _ (List.getElem_mem hi)
  rw [if_pos (by simpa using hi),BA hi]
  generalize s.Conts[i]=c at *
  simp only [Option.bind_some,hp,UE,tM hco,w1,vb,Sd,PP,bF]
  unfold ns
  have:= @ah (G7 c.Control 0 ((s.Players.length:Int) - 1)&&(decide (c.Stamp<s.NextStamp)&&(G7 c.Until 1 2&&(qi c.Objects&&L1 c.Mods)))) i (by omega)
  rw [←this]
  cases G7 c.Control 0 ((s.Players.length:Int) - 1)<;>cases decide (c.Stamp<s.NextStamp)<;>cases G7 c.Until 1 2<;>cases qi c.Objects<;>first | rfl | (simp only [Bool.not_true,Bool.or_self,Bool.and_self,beq_self_eq_true,ii,Option.bind_some,Bool.false_eq_true,if_false,w2,if_true,Bool.and_true,Bool.true_and,Bool.not_false];done) | (simp only [Bool.not_true,Bool.or_self,Bool.and_self,beq_self_eq_true,ii,Option.bind_some,Bool.false_eq_true,if_false,w2,if_true,Bool.and_true,Bool.true_and,Bool.not_false];cases L1 c.Mods<;>rfl)) (by
  show FL s _=_
  unfold FL;rw [if_neg (by simp)])]
 unfold IW
 cases (List.range s.Stack.length).all (pi s)<;>cases s.Waiting.all (ne s)<;>cases s.Conts.all (ns s)<;>rfl
end Go.PL
