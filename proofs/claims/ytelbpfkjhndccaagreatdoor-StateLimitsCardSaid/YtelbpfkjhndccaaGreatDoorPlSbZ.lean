/- Plain laws of states: a state is valid for the program as for the reference. -/
import Derived.Test.YtelbpfkjhndccaaGreatDoorPlSbY
namespace Go.PL
open Go
set_option maxRecDepth 100000
set_option linter.all false
set_option maxHeartbeats 4000000
def JL (a b c:Int):Bool:=decide (b≤a)&&decide (a≤c)
theorem UV (a b c:Int):Cs a b c=some (JL a b c):=by
 unfold Cs JL
 simp only [Option.bind_some,O0]
theorem gl {a b c:Int}:JL a b c=true↔b≤a∧a≤c:=by unfold JL;simp
theorem gm {n:Nat} (h:n<9223372036854775807):Ab ((n:Int) - 1)=(n:Int) - 1:=BC (by omega) (by omega)
theorem nP {α:Type} {c d:Bool} {x y:α} (h:c= !d):(if c=true then some x else some y)=some (if d=true then y else x):=by subst h;cases d<;>rfl
theorem iV (a b:Bool):(!a|| !(a&&b))= !(a&&b):=by cases a<;>cases b<;>rfl
def lI (p:Au):Bool:=JL p.Life (-1000000) 1000000&&(JL p.Venom 0 1000000&&(JL p.Lands 0 1000000&&aV p.Pool))
theorem bc {s:Aj} (z:Sz s):H0 s=some (s.Players.all lI&&JL s.Players.length 2 4):=by
 unfold H0
 rw [XS (l:=s.Players) (q:=lI) (B:=fun v=>C8 s v) z.p (fun i hi=>by
  show C8 s (i:Int)=_
  have:=z.p
  unfold C8
  rw [if_pos (by simpa using hi),B8 hi]
  simp only [Option.bind_some,UV,ix,Vh,QA,bF,Bool.not_not,Bool.not_or,iV,aas',Bool.and_assoc]
  rw [wrapS' (by omega)]
  refine nP ?_
  unfold lI
  cases JL s.Players[i].Life (-1000000) 1000000<;>cases JL s.Players[i].Venom 0 1000000<;>cases JL s.Players[i].Lands 0 1000000<;>cases aV s.Players[i].Pool <;>rfl) (by
  show C8 s _=_
  unfold C8;rw [if_neg (by simp)])]
 unfold Fu
 rw [UV]
 cases s.Players.all lI<;>rfl
def Ix (s:Aj) (i:Nat):Int:=if i=0 then 0 else(s.Objects.getD (i - 1) default).Id
def Qw (nc:Int) (s:Aj) (i:Nat):Bool:=decide (Ix s i<(s.Objects.getD i default).Id)&&(decide ((s.Objects.getD i default).Id <s.NextId)&&(decide ((s.Objects.getD i default).Stamp <s.NextStamp)&&VL (s.Objects.getD i default) nc s.Players.length))
theorem be {s:Aj} (z:Sz s) (cs:List HW):H4 cs s=some ((List.range s.Objects.length).all (Qw cs.length s)&&decide ((s.Objects.length:Int)≤2048)):=by
 unfold H4
 have:=z.o
 rw [iR (K:=fun _=>Er s) (a:=some false) (q:=Qw cs.length s) (B:=fun(v:Int×Int)=>Ca cs s v.1 v.2) (s0:=(0,0)) (fun i=>(Ix s i,(i:Int))) () s.Objects.length (by omega) rfl (fun i hi _=>by
  show if Qw cs.length s i=true then Ca cs s (Ix s i) (i:Int)=some (.inl (Ix s (i+1),((i+1:Nat):Int)))else ∃ r,Ca cs s (Ix s i) (i:Int)=some (.inr (.inr r))
  have e:Ca cs s (Ix s i) (i:Int)=if(!Qw cs.length s i)=true then some (.inr (.inr ()))else some (.inl ((s.Objects.getD i default).Id,Ab ((i:Int)+1))):=by
   unfold Ca Qw
   rw [if_pos (by simpa using hi),B8 hi,GJ hi]
   simp only [Option.bind_some,nJ,Vh,QA,bF,Bool.not_or,iV,aas',Bool.and_assoc]
   have q1:decide (s.Objects[i].Id ≤Ix s i)= !decide (Ix s i<s.Objects[i].Id):=by rw [Bool.eq_iff_iff];simp
   have q2:decide (s.NextId≤s.Objects[i].Id)= !decide (s.Objects[i].Id <s.NextId):=by rw [Bool.eq_iff_iff];simp
   have q3:decide (s.NextStamp≤s.Objects[i].Stamp)= !decide (s.Objects[i].Stamp <s.NextStamp):=by rw [Bool.eq_iff_iff];simp
   rw [q1,q2,q3]
   cases decide (Ix s i<s.Objects[i].Id)<;>cases decide (s.Objects[i].Id <s.NextId)<;>cases decide (s.Objects[i].Stamp <s.NextStamp)<;>cases VL s.Objects[i] cs.length s.Players.length<;>rfl
  rw [e]
  cases Qw cs.length s i
  ·exact⟨_,rfl⟩
  ·rw [if_pos rfl,if_neg (by simp),wrapS' (by omega)]
   unfold Ix
   rw [if_neg (by omega),show i+1 - 1=i by omega]
   rfl) (by
  show Ca cs s _ _=_
  unfold Ca;rw [if_neg (by simp)])]
 unfold Er
 cases (List.range s.Objects.length).all (Qw cs.length s)<;>rfl
theorem iW {s:Aj} {nc:Int} (h: ∀ i,i<s.Objects.length→Ix s i<(s.Objects.getD i default).Id):Ss Ao.Id s.Objects:=by
 have step: ∀ (d i:Nat) (hj:i+d+1<s.Objects.length),s.Objects[i].Id <s.Objects[i+d+1].Id :=by
  intro d
  induction d with
  | zero=>
    intro i hj
    have:=h (i+0+1) hj
    unfold Ix at this
    rw [if_neg (by omega),show i+0+1 - 1=i by omega,GJ (by omega),GJ hj]at this
    exact this
  | succ d ih=>
    intro i hj
    have h1:=ih i (by omega)
    have:=h (i+(d+1)+1) hj
    unfold Ix at this
    rw [if_neg (by omega),GJ (by omega),GJ hj]at this
    have e:s.Objects[i+(d+1)+1 - 1]=s.Objects[i+d+1]:=by congr 1
    rw [e]at this
    omega
 intro i j hi hj
 obtain⟨d,rfl⟩: ∃ d,j=i+d+1:=⟨j - i - 1,by omega⟩
 exact step d i hj
def pe:AN:=⟨0,zF,[],dY,false,dZ,false,[],[],dN⟩
def UW (a:AN):Bool:=(a.Kind==0)&&((a.Filter==zF)&&((a.Mods.length==0)&&((a.Price==dY)&&((a.Slow==false)&&((a.Trigger==dZ)&&((a.May==false)&&((a.Specs.length==0)&&((a.Effects.length==0)&&(a.Replace==dN)))))))))
theorem iX (a:AN):Dr a pe=some (UW a):=by
 unfold Dr UW pe
 simp only [lu,lw,ly,Option.bind_some,Vh,O0,bT,aas',Bool.and_assoc]
def pf (s:Aj) (x:Bw):Bool:=JL x.Id 1 (Ab (s.NextId - 1))&&(JL x.X 0 1000000&&(decide ((x.Targets.length:Int)≤4)&&JL x.Control 0 ((s.Players.length:Int) - 1)))
def gn (s:Aj) (x:Bw):Bool:=if(x.Kind==1)=true then(x.Source==x.Id)&&(UW x.Ability||ec x.Ability)else(x.Kind==2)&&(!(VM s x.Id).2&&ec x.Ability)
theorem nQ (s:Aj) (i:Int) (kv:SM) (x:Bw) (b:Bool):Cy i kv x (VM s x.Id) (UW x.Ability) b=some (if(!b&&gn s x)=true then .inl (Ab (i+1),GE kv x.Id (Ab (Cn kv x.Id+1)))else .inr (.inr ())):=by
 unfold Cy gn
 cases b
 ·cases hk:x.Kind==1
  ·simp only [Bool.false_eq_true,if_false,Bool.not_false,Bool.true_and,bne]
   unfold Ed EJ
   cases hk2:x.Kind==2
   ·rfl
   ·cases (VM s x.Id).2
    ·simp only [lD,Option.bind_some,Bool.not_true,Bool.false_eq_true,if_false,Bool.not_false,Bool.true_and]
     cases ec x.Ability<;>rfl
    ·rfl
  ·simp only [Bool.false_eq_true,if_false,if_true,Bool.not_false,Bool.true_and,lD,Vh,QA,O0,bF,bT,Option.bind_some]
   unfold EJ
   refine nP ?_
   show (!(x.Source==x.Id)||(!UW x.Ability&& !(!(!(x.Source==x.Id))&& !UW x.Ability&&ec x.Ability)))=_
   cases x.Source==x.Id<;>cases UW x.Ability<;>cases ec x.Ability<;>rfl
 ·rfl
def HM (s:Aj) (i:Nat):List Int:=(s.Stack.take i).map Bw.Id
def gp (s:Aj) (i:Nat):Bool:=(pf s (s.Stack.getD i default)&&gn s (s.Stack.getD i default))&&(HM s i).count (s.Stack.getD i default).Id ==0
theorem iY {s:Aj} (hr:Ss Ao.Id s.Objects) (z:Sz s):IJ s=some ((List.range s.Stack.length).all (gp s)&&decide ((s.Stack.length:Int)≤64)):=by
 have zk:=z.k
 unfold IJ
 rw [iR (K:=fun _=>FI s) (a:=some false) (q:=gp s) (B:=fun(v:Int×SM)=>CY s v.1 v.2) (s0:=(0,[])) (fun i=>((i:Int),EM [] (HM s i))) () s.Stack.length z.k rfl (fun i hi _=>by
  show if gp s i=true then CY s (i:Int) (EM [] (HM s i))=some (.inl (((i+1:Nat):Int),EM [] (HM s (i+1))))else ∃ r,CY s (i:Int) (EM [] (HM s i))=some (.inr (.inr r))
  have hl:(HM s i).length ≤i:=by unfold HM;simp;omega
  have hc:X1 (EM [] (HM s i)) (HM s i):=by
   have:=Mb (HM s i) X1.nil (by simp only [List.length_nil];omega)
   rwa [List.nil_append]at this
  have hs:HM s (i+1)=HM s i++[s.Stack[i].Id]:=by
   unfold HM;rw [Ol hi,List.map_append];rfl
  rw [hs,WL]
  generalize EM [] (HM s i)=kv at hc
  have hcl:(HM s i).count s.Stack[i].Id ≤(HM s i).length :=List.count_le_length
  have e:CY s (i:Int) kv=some (if gp s i=true then .inl (Ab ((i:Int)+1),GE kv s.Stack[i].Id (Ab (Cn kv s.Stack[i].Id +1)))else .inr (.inr ())):=by
   unfold CY gp pf
   rw [if_pos (by simpa using hi),B8 hi,GJ hi]
   generalize hx:s.Stack[i]=x at hcl ⊢
   have q0:Cn (GE kv x.Id (Ab (Cn kv x.Id+1))) x.Id=((HM s i).count x.Id:Int)+1:=by
    rw [ZC,if_pos rfl,hc,BC (by omega) (by omega)]
   have q1:decide ((1:Int)<((HM s i).count x.Id:Int)+1)= !((HM s i).count x.Id==0):=by
    rw [Bool.eq_iff_iff];simp;omega
   have q2:decide ((4:Int)<(x.Targets.length:Int))= !decide ((x.Targets.length:Int)≤4):=by
    rw [Bool.eq_iff_iff];simp
   have za:(⟨(0:Int),zF,([]:List (Bx)),dY,false,dZ,false,([]:List (C0)),([]:List (Aw)),dN⟩:AN)=pe:=rfl
   simp only [Option.bind_some,M1 hr z.o]
   refine(congrArg (fun o:Option Bool=>o.bind _) (iX x.Ability)).trans ?_
   simp only [Option.bind_some,UV,q0,q1,q2,gm z.p,nQ]
   cases JL x.Id 1 (Ab (s.NextId - 1))
   ·rfl
   cases (HM s i).count x.Id==0
   ·cases JL x.X 0 1000000<;>cases decide ((x.Targets.length:Int)≤4)<;>cases JL x.Control 0 ((s.Players.length:Int) - 1)<;>simp
   cases JL x.X 0 1000000
   ·rfl
   cases decide ((x.Targets.length:Int)≤4)
   ·rfl
   cases JL x.Control 0 ((s.Players.length:Int) - 1)<;>cases gn s x<;>rfl
  rw [e,wrapS' (by omega)]
  cases gp s i
  ·exact⟨_,rfl⟩
  ·rfl) (by
  show CY s _ _=_
  unfold CY;rw [if_neg (by simp)])]
 unfold FI
 cases (List.range s.Stack.length).all (gp s)<;>rfl
def nS (l:List Int):Bool:=(KZ l).getD false
theorem pg {l:List Int} (h:l.length<9223372036854775807):KZ l=some (nS l):=by
 have:W (KZ l) (fun _=>True):=by
  unfold KZ
  refine W.it (fun v=>1≤v) (fun v=>((l.length:Int) - v).toNat) (by omega) (by omega) (fun v hv=>?_)
  unfold Lr
  refine W.if (fun hc=>?_) (fun _=>W.ex ⟨_,rfl,trivial⟩)
  have hc:=of_decide_eq_true hc
  rw [BC (x:=v - 1) (by omega) (by omega)]
  refine W.bd (W.idx (by omega)) (fun a _=>?_)
  refine W.bd (W.idx (by omega)) (fun b _=>?_)
  refine W.if (fun _=>W.ex ⟨_,rfl,trivial⟩) (fun _=>?_)
  rw [BC (x:=v+1) (by omega) (by omega)]
  exact W.nx (by omega) (by omega)
 obtain⟨b,h, -⟩:=this
 unfold nS;rw [h];rfl
def gq (s:Aj) (w:AZ):Bool:=JL w.Control 0 ((s.Players.length:Int) - 1)&&((w.Ability.Kind==4)&&ec w.Ability)
def gz (s:Aj) (c:Ci):Bool:=JL c.Control 0 ((s.Players.length:Int) - 1)&&(decide (c.Stamp<s.NextStamp)&&(JL c.Until 1 2&&(nS c.Objects&&K5 c.Mods)))
theorem pR (a b:Int):decide (a≤b)= !decide (b<a):=by rw [Bool.eq_iff_iff];simp
theorem bg {s:Aj} (z:Sz s):Ib s=some (s.Waiting.all (gq s)&&(s.Conts.all (gz s)&&(decide ((s.Waiting.length:Int)≤64)&&decide ((s.Conts.length:Int)≤64)))):=by
 have zw:=z.w
 have zc:=z.c
 unfold Ib
 rw [XS (l:=s.Waiting) (q:=gq s) (B:=fun v=>CN s v) z.w (fun i hi=>by
  show CN s (i:Int)=_
  unfold CN
  rw [if_pos (by simpa using hi),B8 hi]
  have e:(s.Waiting[i].Ability.Kind != 4)= !(s.Waiting[i].Ability.Kind ==4):=rfl
  simp only [Option.bind_some,UV,lD,gm z.p,e,Vh,QA,bF,Bool.not_not,Bool.not_or,iV,aas',Bool.and_assoc]
  rw [show (!JL s.Waiting[i].Control 0 ((s.Players.length:Int) - 1)|| !(s.Waiting[i].Ability.Kind ==4)|| !(JL s.Waiting[i].Control 0 ((s.Players.length:Int) - 1)&&(s.Waiting[i].Ability.Kind ==4&&ec s.Waiting[i].Ability)))= !gq s s.Waiting[i] by
   unfold gq
   cases JL s.Waiting[i].Control 0 ((s.Players.length:Int) - 1)<;>cases s.Waiting[i].Ability.Kind ==4<;>cases ec s.Waiting[i].Ability <;>rfl]
  exact aW (by omega)) (by
  show CN s _=_
  unfold CN;rw [if_neg (by simp)])]
 unfold FK
 rw [XS (l:=s.Conts) (q:=gz s) (B:=fun v=>Dc s v) z.c (fun i hi=>by
  show Dc s (i:Int)=_
  unfold Dc
  rw [if_pos (by simpa using hi),B8 hi]
  obtain⟨w,w1,w2,w3⟩:=aX s.Conts[i].Mods
  have hco:=z.co _ (List.getElem_mem hi)
  generalize s.Conts[i]=c at *
  have e1:(if(c.Until != 1)=true then c.Until != 2 else false)= !JL c.Until 1 2:=by
   unfold JL
   rw [Bool.eq_iff_iff];simp;omega
  simp only [Option.bind_some,UV,gm z.p,pg hco,w1,e1,pR,Bool.not_not,PG,QA]
  unfold gz
  have:= @aW (JL c.Control 0 ((s.Players.length:Int) - 1)&&(decide (c.Stamp<s.NextStamp)&&(JL c.Until 1 2&&(nS c.Objects&&K5 c.Mods)))) i (by omega)
  rw [←this]
  cases JL c.Control 0 ((s.Players.length:Int) - 1)<;>cases decide (c.Stamp<s.NextStamp)<;>cases JL c.Until 1 2<;>cases nS c.Objects<;>first | rfl | (simp [w2])) (by
  show Dc s _=_
  unfold Dc;rw [if_neg (by simp)])]
 unfold FJ
 simp only [Option.bind_some,O0]
 cases s.Waiting.all (gq s)<;>cases s.Conts.all (gz s)<;>rfl
end Go.PL
