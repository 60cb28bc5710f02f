/- Plain laws of states: abilities, objects. -/
import Derived.Test.YtelbpfkjhndccaaGreatDoorPlSbU
import Derived.Test.YtelbpfkjhndccaaGreatDoorPlSbC
namespace Go.PL
open Go
set_option maxRecDepth 100000
set_option linter.all false
set_option maxHeartbeats 4000000
def kz:B5:=⟨⟨0,0,⟨0,0,0,0,0⟩⟩,false,false,0⟩
def kA:Bs:=⟨0,0,zF⟩
def kg:AA:=⟨0,0,zF,0,0,0,0⟩
theorem f9 (a b:Ay):GR a b=some ((a.Filter==b.Filter)&&((a.Mods.length:Int)==b.Mods.length)&&(a.Price==b.Price)&&(a.Slow==b.Slow)&&(a.Trigger==b.Trigger)&&(a.May==b.May)&&((a.Specs.length:Int)==b.Specs.length)&&((a.Effects.length:Int)==b.Effects.length)&&(a.Replace==b.Replace)):=by
 unfold GR
 simp only [Option.bind_some,Ph]
theorem oR (p:B5): ∃ w,Eg p=some w∧(w != [])=Mh p:=by
 obtain⟨w,h1,h2⟩:=oC p
 exact⟨w,h1,by unfold bne;rw [h2];exact Bool.not_not _⟩
def Xe (l:List CA):Bool:=l.all UD
def dq (l:List Ar) (n:Int):Bool:=l.all fun e=>di e n
def iy (a:Ay):Bool:=decide (a.Specs.length≤4∧1≤a.Effects.length∧a.Effects.length≤8)&&(Xe a.Specs&&dq a.Effects a.Specs.length)
theorem ug (a:Ay):E7 a=some ((a.Kind != 3||Mh a.Price)&&(a.Kind != 4||jZ a.Trigger)):=by
 obtain⟨w,h1,h2⟩:=oR a.Price
 unfold E7
 simp only [h1,pW,Rh,Option.bind_some]
 cases a.Kind != 3<;>cases a.Kind != 4<;>simp [h2]<;>cases Mh a.Price<;>simp
theorem j5 (a:Ay) (p:B5) (s:Bool) (t:Bs) (m:Bool):EK a p s t m=some (((a.Filter==zF)&&(a.Mods.length==0)&&(a.Price==p)&&(a.Slow==s)&&(a.Trigger==t)&&(a.May==m)&&(a.Replace==kg))&&(iy a&&((a.Kind != 3||Mh a.Price)&&(a.Kind != 4||jZ a.Trigger)))):=by
 have e0:((a.Mods.length:Int)==(([]:List Bq).length :Int))=(a.Mods.length==0):=by rw [Bool.eq_iff_iff];simp
 unfold EK
 rw [show (⟨(0:Int),(0:Int),(⟨(0:Int),(0:Int),(0:Int),(0:Int),(0:Int),(0:Int),(0:Int),[],(0:Int),(0:Int),(⟨(0:Int),(0:Int)⟩:Ac),(⟨(0:Int),(0:Int)⟩:Ac),(⟨(0:Int),(0:Int)⟩:Ac)⟩:Ag),(0:Int),(0:Int),(0:Int),(0:Int)⟩:AA)=kg from rfl]
 rw [show (⟨(0:Int),(0:Int),(0:Int),(0:Int),(0:Int),(0:Int),(0:Int),[],(0:Int),(0:Int),(⟨(0:Int),(0:Int)⟩:Ac),(⟨(0:Int),(0:Int)⟩:Ac),(⟨(0:Int),(0:Int)⟩:Ac)⟩:Ag)=zF from rfl]
 simp only [f9,Option.bind_some,e0,beq_self_eq_true,Bool.and_true,Bool.true_and]
 generalize (((a.Filter==zF)&&(a.Mods.length==0)&&(a.Price==p)&&(a.Slow==s)&&(a.Trigger==t)&&(a.May==m))&&(a.Replace==kg))=q
 unfold iy
 by_cases hl:a.Specs.length≤4∧1≤a.Effects.length∧a.Effects.length≤8
 ·have hb:(if(if(if(!q)=true then true else decide ((4:Int)<(a.Specs.length:Int)))=true then true else(a.Effects.length:Int)==(0:Int))=true then true else decide ((8:Int)<(a.Effects.length:Int)))= !q:=by
   have d1:decide ((4:Int)<(a.Specs.length:Int))=false:=decide_eq_false (by omega)
   have d2:((a.Effects.length:Int)==0)=false:=by rw [beq_eq_false_iff_ne];omega
   have d3:decide ((8:Int)<(a.Effects.length:Int))=false:=decide_eq_false (by omega)
   rw [d1,d2,d3]
   cases q<;>rfl
  rw [hb,decide_eq_true hl,Bool.true_and]
  have h1:=Ua (l:=a.Specs) (q:=UD) (K:=Gy a) (a:=some false) (B:=fun v=>Eb a v) (by omega) (fun i h=>by
   show Eb a (i:Int)=_
   unfold Eb
   obtain⟨w,w1,w2⟩:=oA a.Specs[i]
   rw [if_pos (by simpa using h),BA h]
   simp only [Option.bind_some,w1,w2]
   exact ah (by omega)) (by
   show Eb a _=_
   unfold Eb;rw [if_neg (by simp)])
  have h2:=Ua (l:=a.Effects) (q:=fun e=>di e a.Specs.length) (K:=E7 a) (a:=some false) (B:=fun v=>Ea a v) (by omega) (fun i h=>by
   show Ea a (i:Int)=_
   unfold Ea
   rw [if_pos (by simpa using h),BA h]
   simp only [Option.bind_some,pZ]
   exact ah (by omega)) (by
   show Ea a _=_
   unfold Ea;rw [if_neg (by simp)])
  rw [h1]
  unfold Gy
  rw [h2,ug]
  unfold Xe dq
  cases q<;>cases a.Specs.all UD<;>cases (a.Effects.all fun e=>di e a.Specs.length)<;>simp
 ·have hb:(if(if(if(!q)=true then true else decide ((4:Int)<(a.Specs.length:Int)))=true then true else(a.Effects.length:Int)==(0:Int))=true then true else decide ((8:Int)<(a.Effects.length:Int)))=true:=by
   have:(4<a.Specs.length)∨a.Effects.length=0∨8<a.Effects.length:=by omega
   rcases this with h | h | h
   ·rw [decide_eq_true (p:=(4:Int)<(a.Specs.length:Int)) (by omega)]
    cases q<;>rfl
   ·rw [h]
    cases q<;>cases decide ((4:Int)<(a.Specs.length:Int))<;>rfl
   ·rw [decide_eq_true (p:=(8:Int)<(a.Effects.length:Int)) (by omega)]
    cases q<;>cases decide ((4:Int)<(a.Specs.length:Int))<;>cases (a.Effects.length:Int)==0<;>rfl
  rw [hb,decide_eq_false hl]
  simp
def ep (a:Ay):Bool:=(DD a).getD false
theorem oS {l:List CA} (h:l.length<9223372036854775807):O0 l=some (Xe l&&decide (l.length≤4)):=by
 unfold O0
 rw [Ua (l:=l) (q:=UD) (B:=fun v=>FJ l v) h (fun i h'=>by
     show FJ l (i:Int)=_
     unfold FJ
     rw [if_pos (by simpa using h'),BA h']
     simp only [Option.bind_some,mB]
     exact ah (by omega)) (by
     show FJ l _=_
     unfold FJ;rw [if_neg (by simp)])]
 unfold KQ Xe
 have:decide ((l.length:Int)≤4)=decide (l.length≤4):=by rw [Bool.eq_iff_iff];simp;omega
 rw [this]
 cases l.all UD<;>rfl
theorem rQ {l:List Ar} {n:Int} (h:l.length<9223372036854775807):LZ l n=some (dq l n&&decide (1≤l.length∧l.length≤8)):=by
 unfold LZ
 rw [Ua (l:=l) (q:=fun e=>di e n) (B:=fun v=>Ec l n v) h (fun i h'=>by
     show Ec l n (i:Int)=_
     unfold Ec
     rw [if_pos (by simpa using h'),BA h']
     simp only [Option.bind_some,tx]
     exact ah (by omega)) (by
     show Ec l n _=_
     unfold Ec;rw [if_neg (by simp)])]
 unfold H4 dq
 have:(if(decide ((1:Int)≤(l.length:Int)))=true then decide ((l.length:Int)≤(8:Int))else false)=decide (1≤l.length∧l.length≤8):=by rw [Bool.eq_iff_iff];simp;omega
 rw [Option.bind_some,this]
 cases (l.all fun e=>di e n)<;>rfl
def dt (a:Ay):Prop:=a.Specs.length<9223372036854775807∧a.Effects.length<9223372036854775807
theorem iz (a:Ay): ∃ b,DD a=some b∧(dt a→Lj a=some b):=by
 have zf:(⟨(0:Int),(0:Int),(0:Int),(0:Int),(0:Int),(0:Int),(0:Int),[],(0:Int),(0:Int),(⟨(0:Int),(0:Int)⟩:Ac),(⟨(0:Int),(0:Int)⟩:Ac),(⟨(0:Int),(0:Int)⟩:Ac)⟩:Ag)=zF:=rfl
 have zr:(⟨(0:Int),(0:Int),zF,(0:Int),(0:Int),(0:Int),(0:Int)⟩:AA)=kg:=rfl
 have zt:(⟨(0:Int),(0:Int),zF⟩:Bs)=kA:=rfl
 have zp:(⟨(⟨(0:Int),(0:Int),(⟨(0:Int),(0:Int),(0:Int),(0:Int),(0:Int)⟩:A5 (Int))⟩:AP),false,false,(0:Int)⟩:B5)=kz:=rfl
 obtain⟨w,w1,w2,w3⟩:=fX a.Mods
 obtain⟨v,v1,v2,v3⟩:=ai a.Mods
 have e0:((a.Mods.length:Int)==(([]:List Bq).length :Int))=(a.Mods.length==0):=by rw [Bool.eq_iff_iff];simp
 have e1:((a.Specs.length:Int)==(([]:List CA).length :Int))=(a.Specs.length==0):=by rw [Bool.eq_iff_iff];simp
 have e2:((a.Effects.length:Int)==(([]:List Ar).length :Int))=(a.Effects.length==0):=by rw [Bool.eq_iff_iff];simp
 have e3:decide ((0:Int)<(a.Mods.length:Int))= !(a.Mods.length==0):=by
  generalize a.Mods=l
  cases l
  ·rfl
  ·rw [decide_eq_true (by simp only [List.length_cons];omega)];rfl
 have e4:((a.Specs.length:Int)==0)=(a.Specs.length==0):=by rw [Bool.eq_iff_iff];simp
 have e5:((a.Effects.length:Int)==0)=(a.Effects.length==0):=by rw [Bool.eq_iff_iff];simp
 have e6: ∀ h:dt a,IV a true=some (iy a):=fun h=>by
  unfold IV iy
  simp only [oS h.1,rQ h.2,Rh,Option.bind_some,if_true]
  by_cases q1:a.Specs.length≤4<;>by_cases q2:1≤a.Effects.length∧a.Effects.length≤8<;>cases Xe a.Specs<;>cases dq a.Effects a.Specs.length<;>simp [q1,q2]
 have e7:IV a false=some ((a.Specs.length==0)&&(a.Effects.length==0)):=by
  unfold IV
  simp only [e4,e5,Option.bind_some,Ph]
  rfl
 by_cases hk:a.Kind=1∨a.Kind=2∨a.Kind=3∨a.Kind=4∨a.Kind=5
 ·rcases hk with k | k | k | k | k
  ·refine⟨(a.Filter.Zone==0&&N1 a.Filter&&L1 a.Mods)&&((a.Price==kz)&&(a.Slow==false)&&(a.Trigger==kA)&&(a.May==false)&&(a.Specs.length==0)&&(a.Effects.length==0)&&(a.Replace==kg)),?_,fun hl=>?_⟩
   ·unfold DD
    simp only [zf,zr,zt,zp]
    rw [if_pos (by simpa using k)]
    simp only [f9,Ed,w1,Rh,Option.bind_some,e1,e2,beq_self_eq_true,Bool.true_and]
    congr 1
    cases a.Filter.Zone==0<;>cases N1 a.Filter<;>cases a.Price==kz<;>cases a.Slow<;>cases a.Trigger==kA<;>cases a.May<;>cases a.Specs.length==0<;>cases a.Effects.length==0<;>cases a.Replace==kg<;>simp [w3]
   ·unfold Lj Hz Hy Hx
    simp only [zf,zr,zt,zp,k]
    simp only [show decide ((1:Int)<1)=false from rfl,show decide ((5:Int)<1)=false from rfl,show ((1:Int)==2)=false from rfl,show ((1:Int)==3)=false from rfl,show ((1:Int)==4)=false from rfl,show ((1:Int)==5)=false from rfl,show ((1:Int)==1)=true from rfl,Option.bind_some,if_true,if_false,Bool.false_eq_true,QN,v1,Rh,e7]
    cases hz:a.Filter.Zone==0<;>cases N1 a.Filter<;>cases a.Price==kz<;>cases a.Slow<;>cases a.Trigger==kA<;>cases a.May<;>cases a.Replace==kg<;>simp [v2,bne,hz]
    all_goals cases L1 a.Mods<;>simp
  ·refine⟨_,by unfold DD;rw [if_neg (by simp [k]),if_neg (by simp [k]),if_pos (by simp [k]),zf,zt,zp,j5],fun hl=>?_⟩
   unfold Lj Hz Hy Hx
   simp only [zf,zr,zt,zp,k]
   simp only [show decide ((2:Int)<1)=false from rfl,show decide ((5:Int)<2)=false from rfl,show ((2:Int)==2)=true from rfl,show ((2:Int)==3)=false from rfl,show ((2:Int)==4)=false from rfl,show ((2:Int)==5)=false from rfl,show ((2:Int)==1)=false from rfl,Option.bind_some,if_true,if_false,Bool.false_eq_true,e3,e6 hl,bne,Bool.not_false,Bool.true_or]
   cases a.Filter==zF<;>cases a.Mods.length==0<;>cases a.Price==kz<;>cases a.Slow<;>cases a.Trigger==kA<;>cases a.May<;>cases a.Replace==kg<;>simp
  ·refine⟨_,by unfold DD;rw [if_neg (by simp [k]),if_neg (by simp [k]),if_neg (by simp [k]),if_pos (by simp [k]),zf,zt,j5],fun hl=>?_⟩
   unfold Lj Hz Hy Hx
   simp only [zf,zr,zt,zp,k]
   simp only [show decide ((3:Int)<1)=false from rfl,show decide ((5:Int)<3)=false from rfl,show ((3:Int)==2)=false from rfl,show ((3:Int)==3)=true from rfl,show ((3:Int)==4)=false from rfl,show ((3:Int)==5)=false from rfl,show ((3:Int)==1)=false from rfl,Option.bind_some,if_true,if_false,Bool.false_eq_true,e3,e6 hl,bne,Bool.not_false,Bool.not_true,Bool.true_or,Bool.false_or,oB,beq_self_eq_true]
   cases a.Filter==zF<;>cases a.Mods.length==0<;>cases Mh a.Price<;>cases a.Trigger==kA<;>cases a.May<;>cases a.Replace==kg<;>simp
  ·refine⟨_,by unfold DD;rw [if_neg (by simp [k]),if_neg (by simp [k]),if_neg (by simp [k]),if_neg (by simp [k]),if_pos (by simp [k]),zp,j5],fun hl=>?_⟩
   unfold Lj Hz Hy Hx
   simp only [zf,zr,zt,zp,k]
   simp only [show decide ((4:Int)<1)=false from rfl,show decide ((5:Int)<4)=false from rfl,show ((4:Int)==2)=false from rfl,show ((4:Int)==3)=false from rfl,show ((4:Int)==4)=true from rfl,show ((4:Int)==5)=false from rfl,show ((4:Int)==1)=false from rfl,Option.bind_some,if_true,if_false,Bool.false_eq_true,e3,e6 hl,bne,Bool.not_false,Bool.not_true,Bool.true_or,Bool.false_or,tv,beq_self_eq_true]
   cases a.Filter==zF<;>cases a.Mods.length==0<;>cases a.Price==kz<;>cases a.Slow<;>cases jZ a.Trigger<;>cases a.Replace==kg<;>simp
  ·refine⟨mI a.Replace&&((a.Filter==zF)&&(a.Mods.length==0)&&(a.Price==kz)&&(a.Slow==false)&&(a.Trigger==kA)&&(a.May==false)&&(a.Specs.length==0)&&(a.Effects.length==0)),?_,fun hl=>?_⟩
   ·unfold DD
    simp only [zf,zr,zt,zp]
    rw [if_neg (by simp [k]),if_pos (by simpa using k)]
    simp only [f9,pX,Rh,Option.bind_some,e0,e1,e2,beq_self_eq_true,Bool.and_true]
    congr 1
    cases a.Filter==zF<;>cases a.Mods.length==0<;>cases a.Price==kz<;>cases a.Slow<;>cases a.Trigger==kA<;>cases a.May<;>cases a.Specs.length==0<;>cases a.Effects.length==0<;>simp
   ·unfold Lj Hz Hy Hx
    simp only [zf,zr,zt,zp,k]
    simp only [show decide ((5:Int)<1)=false from rfl,show decide ((5:Int)<5)=false from rfl,show ((5:Int)==2)=false from rfl,show ((5:Int)==3)=false from rfl,show ((5:Int)==4)=false from rfl,show ((5:Int)==5)=true from rfl,show ((5:Int)==1)=false from rfl,Option.bind_some,if_true,if_false,Bool.false_eq_true,e3,e7,bne,Bool.not_false,Bool.not_true,tw]
    cases a.Filter==zF<;>cases a.Mods.length==0<;>cases a.Price==kz<;>cases a.Slow<;>cases a.Trigger==kA<;>cases a.May<;>cases mI a.Replace<;>simp
 ·have k1:(a.Kind==1)=false:=by simp;omega
  have k2:(a.Kind==2)=false:=by simp;omega
  have k3:(a.Kind==3)=false:=by simp;omega
  have k4:(a.Kind==4)=false:=by simp;omega
  have k5:(a.Kind==5)=false:=by simp;omega
  refine⟨false,?_,fun hl=>?_⟩
  ·unfold DD
   simp only [k1,k2,k3,k4,k5,Bool.false_eq_true,if_false]
  ·unfold Lj
   rw [Option.bind_some,if_pos (by simp;omega)]
theorem oT (a:Ay):DD a=some (ep a):=by
 obtain⟨b,h, -⟩:=iz a
 unfold ep;rw [h];rfl
theorem qd {a:Ay} (hl:dt a):Lj a=some (ep a):=by
 obtain⟨b,h,h'⟩:=iz a
 rw [h' hl, ←h,oT]
def oU (c:A3 Int):Bool:= !(List.range 3).any fun i=>Ot 1000000 (c.l.getD i default)
theorem qe (c:A3 Int):Nm c=some (oU c):=by
 unfold Nm oU
 rw [cZ (p:=fun i=>Ot 1000000 (c.l.getD i default)) (f:=fun i=>(i:Int)) (B:=fun v=>Hr c v) 3 (by omega) (fun i hi=>by
  show Hr c (i:Int)=_
  unfold Hr
  rw [if_pos (by simp only [bz];omega),RB (l:=c.l) hi,wrapS' (by omega)]
  simp only [Option.bind_some,rb]
  cases Ot 1000000 (c.l.getD i default)<;>rfl) rfl]
 cases h:(List.range 3).find? (fun i=>Ot 1000000 (c.l.getD i default))with
 | none=>rw [Lz h];rfl
 | some i=>
   rw [(FX h).1]
   show FP (i:Int)=_
   unfold FP
   rw [decide_eq_true (by omega)]
theorem tD (c:A3 Int):WA c=some (oU c):=by
 unfold WA oU
 refine(Z8 (K:=OO) (a:=some false) (p:=fun i=> !Ot 1000000 (c.l.getD i default)) (B:=fun v=>ML c v) 3 (by omega) (fun i hi=>?_) rfl).trans ?_
 ·show ML c (i:Int)=_
  unfold ML
  rw [if_pos (by simp only [bz];omega),RB (l:=c.l) hi,wrapS' (by omega)]
  rw [Option.bind_some,uF 1000000 _ _ _ rfl]
  cases Ot 1000000 (c.l.getD i default)<;>rfl
 ·rw [List.not_any_eq_all_not]
  exact jX _
def ao (o:Al) (nc np:Int):Bool:=(Iv o nc np).getD false
theorem qf (a b c:Int):Ig a b c=some (decide (b≤a)&&decide (a≤c)):=by
 unfold Ig
 simp only [Option.bind_some,Ph]
theorem tE (o:Al) (nc np:Int):T (Iv o nc np):=by
 unfold Iv Kn LL
 simp only [Option.bind_some,qf,qe,Rh,nq]
 exact⟨_,rfl⟩
theorem mT (o:Al) (nc np:Int):Iv o nc np=some (ao o nc np):=by
 obtain⟨b,h⟩:=tE o nc np
 unfold ao;rw [h];rfl
theorem rR {o:Al} {nc np:Int} (h:ao o nc np=true):1≤o.Id:=by
 have e:=mT o nc np
 rw [h]at e
 unfold Iv at e
 by_cases hi:1≤o.Id
 ·exact hi
 ·rw [decide_eq_true (p:=o.Id<1) (by omega)]at e
  simp [Z9]at e
def du (o:Al):Al:={{{o with Damage:=(0:Int)}with Deadly:=false}with Shield:=(0:Int)}
def QQ (o:Al):Al:={{{o with Attack:=(-1:Int)}with Blocked:=false}with Blocks:=(0:Int)}
theorem uI (o:Al):Kn o=some (du o):=rfl
theorem uJ (o:Al):LL o=some (QQ o):=rfl
theorem uK (o:Al):Q9 o=some (du o):=rfl
theorem uL (o:Al):SR o=some (QQ o):=rfl
theorem rS (o:Al):(o==QQ (du o))=((o==QQ o)&&(o==du o)):=by
 rw [Bool.eq_iff_iff]
 obtain⟨⟩:=o
 simp [QQ,du]
 constructor<;>(intro h;simp_all)
theorem uM (b q:Bool):(if b=true then false else q)=(!b&&q):=by cases b<;>rfl
theorem tF (o:Al) (nc np:Int):WK o nc np=some (ao o nc np):=by
 rw [←mT]
 unfold Iv WK
 simp only [Option.bind_some,qf,qe,tD,uI,uJ,uK,uL,rS,Sd,nq,aq,Ph,PP,uM,s8,Bool.not_not,bF,bT]
 simp only [Rh,Option.bind_some,nq,aq,Ph,PP,uM]
 generalize hq2:(o==QQ o)=q2
 have e1:(if(!(o.Zone==0))=true then QQ o else default)=if(o.Zone==0)=true then default else QQ o:=by cases o.Zone==0<;>rfl
 cases hz:(o.Zone==0)
 ·cases q2
  ·simp only [hq2,Bool.not_false,if_true,Bool.and_false,Bool.false_and,Bool.false_or,if_false,Bool.false_eq_true,Bool.not_or,Bool.not_not,Bool.and_assoc,aas',se]
  ·simp only [hq2,Bool.not_false,if_true,Bool.and_true,Bool.true_and,Bool.false_or,if_false,Bool.false_eq_true,Bool.not_or,Bool.not_not,Bool.and_assoc,aas',se]
   first | done | (congr 1;grind)
 ·simp only [Bool.not_true,if_true,Bool.and_false,Bool.false_and,Bool.true_or,Bool.and_true,if_false,Bool.false_eq_true,Bool.not_or,Bool.not_not,Bool.and_assoc,aas',se]
  first | done | (congr 1;grind)
end Go.PL
