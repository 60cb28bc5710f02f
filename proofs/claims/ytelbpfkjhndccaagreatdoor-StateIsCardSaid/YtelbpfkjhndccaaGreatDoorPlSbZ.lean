/- Plain laws of states: a state is valid for the program as for the reference. -/
import Derived.Test.YtelbpfkjhndccaaGreatDoorPlSbY
namespace Go.PL
open Go
set_option maxRecDepth 100000
set_option linter.all false
set_option maxHeartbeats 4000000
def G7 (a b c:Int):Bool:=decide (b≤a)&&decide (a≤c)
theorem Xh (a b c:Int):CB a b c=some (G7 a b c):=by
 unfold CB G7
 simp only [Option.bind_some,Ph]
theorem UE (a b c:Int):HD a b c=some (G7 a b c):=by
 unfold HD G7
 simp only [Option.bind_some,Ph]
theorem tJ {a b c:Int}:G7 a b c=true↔b≤a∧a≤c:=by unfold G7;simp
theorem dz {n:Nat} (h:n<9223372036854775807):Ab ((n:Int) - 1)=(n:Int) - 1:=BD (by omega) (by omega)
theorem rW {α:Type} {c d:Bool} {x y:α} (h:c= !d):(if c=true then some x else some y)=some (if d=true then y else x):=by subst h;cases d<;>rfl
theorem gb (a b:Bool):(!a|| !(a&&b))= !(a&&b):=by cases a<;>cases b<;>rfl
def nr (p:AB):Bool:=G7 p.Life (-1000000) 1000000&&(G7 p.Venom 0 1000000&&(G7 p.Lands 0 1000000&&W8 p.Pool))
theorem gc {s:Ai} (z:Sz s):Jj s=some (s.Players.all nr&&G7 s.Players.length 2 4):=by
 unfold Jj
 rw [Ua (l:=s.Players) (q:=nr) (B:=fun v=>Dj s v) z.p (fun i hi=>by
  show Dj s (i:Int)=_
  have:=z.p
  unfold Dj
  rw [if_pos (by simpa using hi),BA hi]
  simp only [Option.bind_some,Xh,ow,Sd,PP,bF,Bool.not_not,Bool.not_or,gb,aas',Bool.and_assoc]
  rw [wrapS' (by omega)]
  refine rW ?_
  unfold nr
  cases G7 s.Players[i].Life (-1000000) 1000000<;>cases G7 s.Players[i].Venom 0 1000000<;>cases G7 s.Players[i].Lands 0 1000000<;>cases W8 s.Players[i].Pool <;>rfl) (by
  show Dj s _=_
  unfold Dj;rw [if_neg (by simp)])]
 unfold Ga
 rw [Xh]
 cases s.Players.all nr<;>rfl
def JR (s:Ai) (i:Nat):Int:=if i=0 then 0 else(s.Objects.getD (i - 1) default).Id
def S8 (nc:Int) (s:Ai) (i:Nat):Bool:=decide (JR s i<(s.Objects.getD i default).Id)&&(decide ((s.Objects.getD i default).Id <s.NextId)&&(decide ((s.Objects.getD i default).Stamp <s.NextStamp)&&ao (s.Objects.getD i default) nc s.Players.length))
theorem ge {s:Ai} (z:Sz s) (cs:List E1):Jn cs s=some ((List.range s.Objects.length).all (S8 cs.length s)&&decide ((s.Objects.length:Int)≤2048)):=by
 unfold Jn
 have:=z.o
 rw [oY (K:=fun _=>EQ s) (a:=some false) (q:=S8 cs.length s) (B:=fun(v:Int×Int)=>Cg cs s v.1 v.2) (s0:=(0,0)) (fun i=>(JR s i,(i:Int))) () s.Objects.length (by omega) rfl (fun i hi _=>by
  show if S8 cs.length s i=true then Cg cs s (JR s i) (i:Int)=some (.inl (JR s (i+1),((i+1:Nat):Int)))else ∃ r,Cg cs s (JR s i) (i:Int)=some (.inr (.inr r))
  have e:Cg cs s (JR s i) (i:Int)=if(!S8 cs.length s i)=true then some (.inr (.inr ()))else some (.inl ((s.Objects.getD i default).Id,Ab ((i:Int)+1))):=by
   unfold Cg S8
   rw [if_pos (by simpa using hi),BA hi,Cu hi]
   simp only [Option.bind_some,mT,Sd,PP,bF,Bool.not_or,gb,aas',Bool.and_assoc]
   have q1:decide (s.Objects[i].Id ≤JR s i)= !decide (JR s i<s.Objects[i].Id):=by rw [Bool.eq_iff_iff];simp
   have q2:decide (s.NextId≤s.Objects[i].Id)= !decide (s.Objects[i].Id <s.NextId):=by rw [Bool.eq_iff_iff];simp
   have q3:decide (s.NextStamp≤s.Objects[i].Stamp)= !decide (s.Objects[i].Stamp <s.NextStamp):=by rw [Bool.eq_iff_iff];simp
   rw [q1,q2,q3]
   cases decide (JR s i<s.Objects[i].Id)<;>cases decide (s.Objects[i].Id <s.NextId)<;>cases decide (s.Objects[i].Stamp <s.NextStamp)<;>cases ao s.Objects[i] cs.length s.Players.length<;>rfl
  rw [e]
  cases S8 cs.length s i
  ·exact⟨_,rfl⟩
  ·rw [if_pos rfl,if_neg (by simp),wrapS' (by omega)]
   unfold JR
   rw [if_neg (by omega),show i+1 - 1=i by omega]
   rfl) (by
  show Cg cs s _ _=_
  unfold Cg;rw [if_neg (by simp)])]
 unfold EQ
 cases (List.range s.Objects.length).all (S8 cs.length s)<;>rfl
theorem pc {s:Ai} {nc:Int} (h: ∀ i,i<s.Objects.length→JR s i<(s.Objects.getD i default).Id):R9 Al.Id s.Objects:=by
 have step: ∀ (d i:Nat) (hj:i+d+1<s.Objects.length),s.Objects[i].Id <s.Objects[i+d+1].Id :=by
  intro d
  induction d with
  | zero=>
    intro i hj
    have:=h (i+0+1) hj
    unfold JR at this
    rw [if_neg (by omega),show i+0+1 - 1=i by omega,Cu (by omega),Cu hj]at this
    exact this
  | succ d ih=>
    intro i hj
    have h1:=ih i (by omega)
    have:=h (i+(d+1)+1) hj
    unfold JR at this
    rw [if_neg (by omega),Cu (by omega),Cu hj]at this
    have e:s.Objects[i+(d+1)+1 - 1]=s.Objects[i+d+1]:=by congr 1
    rw [e]at this
    omega
 intro i j hi hj
 obtain⟨d,rfl⟩: ∃ d,j=i+d+1:=⟨j - i - 1,by omega⟩
 exact step d i hj
def pd:Ay:=⟨0,zF,[],kz,false,kA,false,[],[],kg⟩
def PO (a:Ay):Bool:=(a.Kind==0)&&((a.Filter==zF)&&((a.Mods.length==0)&&((a.Price==kz)&&((a.Slow==false)&&((a.Trigger==kA)&&((a.May==false)&&((a.Specs.length==0)&&((a.Effects.length==0)&&(a.Replace==kg)))))))))
theorem pe (a:Ay):DC a pd=some (PO a):=by
 unfold DC PO pd
 simp only [rL,rM,rN,Option.bind_some,Sd,Ph,bT,aas',Bool.and_assoc]
theorem pf {a:Ay} (h:dt a):OY a pd=some (PO a):=by
 unfold OY PO
 by_cases hs:a.Specs=[]
 ·rw [if_neg (by rw [hs];simp [pd])]
  have e:iter (fun(v:Int)=>KC a pd v) FU (0:Int)=some (.inl ()):=by
   unfold FU
   refine DM ?_
   unfold KC
   rw [hs]
   rfl
  rw [e]
  simp only [Option.bind_some,Sum.elim_inl]
  unfold LW pd
  simp only [tA,tC,Option.bind_some,Sd,Ph,bT,aas',Bool.and_assoc]
  rw [hs]
  congr 1
 ·rw [if_pos (by simp [pd];exact hs)]
  have:(a.Specs.length==0)=false:=by simp;exact hs
  rw [this]
  simp
def si (s:Ai) (x:Cb):Bool:=G7 x.Id 1 (Ab (s.NextId - 1))&&(G7 x.X 0 1000000&&(decide ((x.Targets.length:Int)≤4)&&G7 x.Control 0 ((s.Players.length:Int) - 1)))
def kl (s:Ai) (x:Cb):Bool:=if(x.Kind==1)=true then(x.Source==x.Id)&&(PO x.Ability||ep x.Ability)else(x.Kind==2)&&(!(Ou s x.Id).2&&ep x.Ability)
theorem tK (s:Ai) (i:Int) (kv:SM) (x:Cb) (b:Bool):CH i kv x (Ou s x.Id) (PO x.Ability) b=some (if(!b&&kl s x)=true then .inl (Ab (i+1),HC kv x.Id (Ab (Cv kv x.Id+1)))else .inr (.inr ())):=by
 unfold CH kl
 cases b
 ·cases hk:x.Kind==1
  ·simp only [Bool.false_eq_true,if_false,Bool.not_false,Bool.true_and,bne]
   unfold Es E8
   cases hk2:x.Kind==2
   ·rfl
   ·cases (Ou s x.Id).2
    ·simp only [oT,Option.bind_some,Bool.not_true,Bool.false_eq_true,if_false,Bool.not_false,Bool.true_and]
     cases ep x.Ability<;>rfl
    ·rfl
  ·simp only [Bool.false_eq_true,if_false,if_true,Bool.not_false,Bool.true_and,oT,Sd,PP,Ph,bF,bT,Option.bind_some]
   unfold E8
   refine rW ?_
   show (!(x.Source==x.Id)||(!PO x.Ability&& !(!(!(x.Source==x.Id))&& !PO x.Ability&&ep x.Ability)))=_
   cases x.Source==x.Id<;>cases PO x.Ability<;>cases ep x.Ability<;>rfl
 ·rfl
def I3 (s:Ai) (i:Nat):List Int:=(s.Stack.take i).map Cb.Id
def kC (s:Ai) (i:Nat):Bool:=(si s (s.Stack.getD i default)&&kl s (s.Stack.getD i default))&&(I3 s i).count (s.Stack.getD i default).Id ==0
theorem pg {s:Ai} (hr:R9 Al.Id s.Objects) (z:Sz s):Kc s=some ((List.range s.Stack.length).all (kC s)&&decide ((s.Stack.length:Int)≤64)):=by
 have zk:=z.k
 unfold Kc
 rw [oY (K:=fun _=>Gz s) (a:=some false) (q:=kC s) (B:=fun(v:Int×SM)=>C9 s v.1 v.2) (s0:=(0,[])) (fun i=>((i:Int),Fb [] (I3 s i))) () s.Stack.length z.k rfl (fun i hi _=>by
  show if kC s i=true then C9 s (i:Int) (Fb [] (I3 s i))=some (.inl (((i+1:Nat):Int),Fb [] (I3 s (i+1))))else ∃ r,C9 s (i:Int) (Fb [] (I3 s i))=some (.inr (.inr r))
  have hl:(I3 s i).length ≤i:=by unfold I3;simp;omega
  have hc:ar (Fb [] (I3 s i)) (I3 s i):=by
   have:=O2 (I3 s i) ar.nil (by simp only [List.length_nil];omega)
   rwa [List.nil_append]at this
  have hs:I3 s (i+1)=I3 s i++[s.Stack[i].Id]:=by
   unfold I3;rw [O3 hi,List.map_append];rfl
  rw [hs,YP]
  generalize Fb [] (I3 s i)=kv at hc
  have hcl:(I3 s i).count s.Stack[i].Id ≤(I3 s i).length :=List.count_le_length
  have e:C9 s (i:Int) kv=some (if kC s i=true then .inl (Ab ((i:Int)+1),HC kv s.Stack[i].Id (Ab (Cv kv s.Stack[i].Id +1)))else .inr (.inr ())):=by
   unfold C9 kC si
   rw [if_pos (by simpa using hi),BA hi,Cu hi]
   generalize hx:s.Stack[i]=x at hcl ⊢
   have q0:Cv (HC kv x.Id (Ab (Cv kv x.Id+1))) x.Id=((I3 s i).count x.Id:Int)+1:=by
    rw [dv,if_pos rfl,hc,BD (by omega) (by omega)]
   have q1:decide ((1:Int)<((I3 s i).count x.Id:Int)+1)= !((I3 s i).count x.Id==0):=by
    rw [Bool.eq_iff_iff];simp;omega
   have q2:decide ((4:Int)<(x.Targets.length:Int))= !decide ((x.Targets.length:Int)≤4):=by
    rw [Bool.eq_iff_iff];simp
   have za:(⟨(0:Int),zF,([]:List (Bq)),kz,false,kA,false,([]:List (CA)),([]:List (Ar)),kg⟩:Ay)=pd:=rfl
   simp only [Option.bind_some,PG hr z.o]
   refine(congrArg (fun o:Option Bool=>o.bind _) (pe x.Ability)).trans ?_
   simp only [Option.bind_some,Xh,q0,q1,q2,dz z.p,tK]
   cases G7 x.Id 1 (Ab (s.NextId - 1))
   ·rfl
   cases (I3 s i).count x.Id==0
   ·cases G7 x.X 0 1000000<;>cases decide ((x.Targets.length:Int)≤4)<;>cases G7 x.Control 0 ((s.Players.length:Int) - 1)<;>simp
   cases G7 x.X 0 1000000
   ·rfl
   cases decide ((x.Targets.length:Int)≤4)
   ·rfl
   cases G7 x.Control 0 ((s.Players.length:Int) - 1)<;>cases kl s x<;>rfl
  rw [e,wrapS' (by omega)]
  cases kC s i
  ·exact⟨_,rfl⟩
  ·rfl) (by
  show C9 s _ _=_
  unfold C9;rw [if_neg (by simp)])]
 unfold Gz
 cases (List.range s.Stack.length).all (kC s)<;>rfl
def qi (l:List Int):Bool:=(Nr l).getD false
theorem tL {l:List Int} (h:l.length<9223372036854775807):Nr l=some (qi l):=by
 have:W (Nr l) (fun _=>True):=by
  unfold Nr
  refine W.it (fun v=>1≤v) (fun v=>((l.length:Int) - v).toNat) (by omega) (by omega) (fun v hv=>?_)
  unfold NW
  refine W.if (fun hc=>?_) (fun _=>W.ex ⟨_,rfl,trivial⟩)
  have hc:=of_decide_eq_true hc
  rw [BD (x:=v - 1) (by omega) (by omega)]
  refine W.bd (W.idx (by omega)) (fun a _=>?_)
  refine W.bd (W.idx (by omega)) (fun b _=>?_)
  refine W.if (fun _=>W.ex ⟨_,rfl,trivial⟩) (fun _=>?_)
  rw [BD (x:=v+1) (by omega) (by omega)]
  exact W.nx (by omega) (by omega)
 obtain⟨b,h, -⟩:=this
 unfold qi;rw [h];rfl
theorem tM {l:List Int} (h:l.length<9223372036854775807):ZN l=some (qi l):=by
 rw [←tL h];rfl
def ne (s:Ai) (w:BI):Bool:=G7 w.Control 0 ((s.Players.length:Int) - 1)&&((w.Ability.Kind==4)&&ep w.Ability)
def ns (s:Ai) (c:E9):Bool:=G7 c.Control 0 ((s.Players.length:Int) - 1)&&(decide (c.Stamp<s.NextStamp)&&(G7 c.Until 1 2&&(qi c.Objects&&L1 c.Mods)))
theorem vb (a b:Int):decide (a≤b)= !decide (b<a):=by rw [Bool.eq_iff_iff];simp
theorem gf {s:Ai} (z:Sz s):Jw s=some (s.Waiting.all (ne s)&&(s.Conts.all (ns s)&&(decide ((s.Waiting.length:Int)≤64)&&decide ((s.Conts.length:Int)≤64)))):=by
 have zw:=z.w
 have zc:=z.c
 unfold Jw
 rw [Ua (l:=s.Waiting) (q:=ne s) (B:=fun v=>CY s v) z.w (fun i hi=>by
  show CY s (i:Int)=_
  unfold CY
  rw [if_pos (by simpa using hi),BA hi]
  have e:(s.Waiting[i].Ability.Kind != 4)= !(s.Waiting[i].Ability.Kind ==4):=rfl
  simp only [Option.bind_some,Xh,oT,dz z.p,e,Sd,PP,bF,Bool.not_not,Bool.not_or,gb,aas',Bool.and_assoc]
  rw [show (!G7 s.Waiting[i].Control 0 ((s.Players.length:Int) - 1)|| !(s.Waiting[i].Ability.Kind ==4)|| !(G7 s.Waiting[i].Control 0 ((s.Players.length:Int) - 1)&&(s.Waiting[i].Ability.Kind ==4&&ep s.Waiting[i].Ability)))= !ne s s.Waiting[i] by
   unfold ne
   cases G7 s.Waiting[i].Control 0 ((s.Players.length:Int) - 1)<;>cases s.Waiting[i].Ability.Kind ==4<;>cases ep s.Waiting[i].Ability <;>rfl]
  exact ah (by omega)) (by
  show CY s _=_
  unfold CY;rw [if_neg (by simp)])]
 unfold GB
 rw [Ua (l:=s.Conts) (q:=ns s) (B:=fun v=>Dp s v) z.c (fun i hi=>by
  show Dp s (i:Int)=_
  unfold Dp
  rw [if_pos (by simpa using hi),BA hi]
  obtain⟨w,w1,w2,w3⟩:=fX s.Conts[i].Mods
  have hco:=z.co _ (List.getElem_mem hi)
  generalize s.Conts[i]=c at *
  have e1:(if(c.Until != 1)=true then c.Until != 2 else false)= !G7 c.Until 1 2:=by
   unfold G7
   rw [Bool.eq_iff_iff];simp;omega
  simp only [Option.bind_some,Xh,dz z.p,tL hco,w1,e1,vb,Bool.not_not,Rh,PP]
  unfold ns
  have:= @ah (G7 c.Control 0 ((s.Players.length:Int) - 1)&&(decide (c.Stamp<s.NextStamp)&&(G7 c.Until 1 2&&(qi c.Objects&&L1 c.Mods)))) i (by omega)
  rw [←this]
  cases G7 c.Control 0 ((s.Players.length:Int) - 1)<;>cases decide (c.Stamp<s.NextStamp)<;>cases G7 c.Until 1 2<;>cases qi c.Objects<;>first | rfl | (simp [w2])) (by
  show Dp s _=_
  unfold Dp;rw [if_neg (by simp)])]
 unfold GA
 simp only [Option.bind_some,Ph]
 cases s.Waiting.all (ne s)<;>cases s.Conts.all (ns s)<;>rfl
end Go.PL
