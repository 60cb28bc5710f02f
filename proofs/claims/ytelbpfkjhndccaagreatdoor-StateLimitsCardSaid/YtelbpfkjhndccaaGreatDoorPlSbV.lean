/- Plain laws of states: abilities, objects. -/
import Derived.Test.YtelbpfkjhndccaaGreatDoorPlSbU
import Derived.Test.YtelbpfkjhndccaaGreatDoorPlSbC
namespace Go.PL
open Go
set_option maxRecDepth 100000
set_option linter.all false
set_option maxHeartbeats 4000000
def dY:CG:=⟨⟨0,0,⟨0,0,0,0,0⟩⟩,false,false,0⟩
def dZ:By:=⟨0,0,zF⟩
def dN:AJ:=⟨0,0,zF,0,0,0,0⟩
theorem bb (a b:AN):FZ a b=some ((a.Filter==b.Filter)&&((a.Mods.length:Int)==b.Mods.length)&&(a.Price==b.Price)&&(a.Slow==b.Slow)&&(a.Trigger==b.Trigger)&&(a.May==b.May)&&((a.Specs.length:Int)==b.Specs.length)&&((a.Effects.length:Int)==b.Effects.length)&&(a.Replace==b.Replace)):=by
 unfold FZ
 simp only [Option.bind_some,O0]
theorem iM (p:CG): ∃ w,D3 p=some w∧(w != [])=JT p:=by
 obtain⟨w,h1,h2⟩:=iB p
 exact⟨w,h1,by unfold bne;rw [h2];exact Bool.not_not _⟩
def UT (l:List C0):Bool:=l.all RX
def ZB (l:List Aw) (n:Int):Bool:=l.all fun e=>Zu e n
def cw (a:AN):Bool:=decide (a.Specs.length≤4∧1≤a.Effects.length∧a.Effects.length≤8)&&(UT a.Specs&&ZB a.Effects a.Specs.length)
theorem ou (a:AN):EI a=some ((a.Kind != 3||JT a.Price)&&(a.Kind != 4||dJ a.Trigger)):=by
 obtain⟨w,h1,h2⟩:=iM a.Price
 unfold EI
 simp only [h1,jK,PG,Option.bind_some]
 cases a.Kind != 3<;>cases a.Kind != 4<;>simp [h2]<;>cases JT a.Price<;>simp
theorem j5 (a:AN) (p:CG) (s:Bool) (t:By) (m:Bool):Ep a p s t m=some (((a.Filter==zF)&&(a.Mods.length==0)&&(a.Price==p)&&(a.Slow==s)&&(a.Trigger==t)&&(a.May==m)&&(a.Replace==dN))&&(cw a&&((a.Kind != 3||JT a.Price)&&(a.Kind != 4||dJ a.Trigger)))):=by
 have e0:((a.Mods.length:Int)==(([]:List Bx).length :Int))=(a.Mods.length==0):=by rw [Bool.eq_iff_iff];simp
 unfold Ep
 rw [show (⟨(0:Int),(0:Int),(⟨(0:Int),(0:Int),(0:Int),(0:Int),(0:Int),(0:Int),(0:Int),[],(0:Int),(0:Int),(⟨(0:Int),(0:Int)⟩:Ae),(⟨(0:Int),(0:Int)⟩:Ae),(⟨(0:Int),(0:Int)⟩:Ae)⟩:Af),(0:Int),(0:Int),(0:Int),(0:Int)⟩:AJ)=dN from rfl]
 rw [show (⟨(0:Int),(0:Int),(0:Int),(0:Int),(0:Int),(0:Int),(0:Int),[],(0:Int),(0:Int),(⟨(0:Int),(0:Int)⟩:Ae),(⟨(0:Int),(0:Int)⟩:Ae),(⟨(0:Int),(0:Int)⟩:Ae)⟩:Af)=zF from rfl]
 simp only [bb,Option.bind_some,e0,beq_self_eq_true,Bool.and_true,Bool.true_and]
 generalize (((a.Filter==zF)&&(a.Mods.length==0)&&(a.Price==p)&&(a.Slow==s)&&(a.Trigger==t)&&(a.May==m))&&(a.Replace==dN))=q
 unfold cw
 by_cases hl:a.Specs.length≤4∧1≤a.Effects.length∧a.Effects.length≤8
 ·have hb:(if(if(if(!q)=true then true else decide ((4:Int)<(a.Specs.length:Int)))=true then true else(a.Effects.length:Int)==(0:Int))=true then true else decide ((8:Int)<(a.Effects.length:Int)))= !q:=by
   have d1:decide ((4:Int)<(a.Specs.length:Int))=false:=decide_eq_false (by omega)
   have d2:((a.Effects.length:Int)==0)=false:=by rw [beq_eq_false_iff_ne];omega
   have d3:decide ((8:Int)<(a.Effects.length:Int))=false:=decide_eq_false (by omega)
   rw [d1,d2,d3]
   cases q<;>rfl
  rw [hb,decide_eq_true hl,Bool.true_and]
  have h1:=XS (l:=a.Specs) (q:=RX) (K:=FH a) (a:=some false) (B:=fun v=>D0 a v) (by omega) (fun i h=>by
   show D0 a (i:Int)=_
   unfold D0
   obtain⟨w,w1,w2⟩:=iz a.Specs[i]
   rw [if_pos (by simpa using h),B8 h]
   simp only [Option.bind_some,w1,w2]
   exact aW (by omega)) (by
   show D0 a _=_
   unfold D0;rw [if_neg (by simp)])
  have h2:=XS (l:=a.Effects) (q:=fun e=>Zu e a.Specs.length) (K:=EI a) (a:=some false) (B:=fun v=>DZ a v) (by omega) (fun i h=>by
   show DZ a (i:Int)=_
   unfold DZ
   rw [if_pos (by simpa using h),B8 h]
   simp only [Option.bind_some,jM]
   exact aW (by omega)) (by
   show DZ a _=_
   unfold DZ;rw [if_neg (by simp)])
  rw [h1]
  unfold FH
  rw [h2,ou]
  unfold UT ZB
  cases q<;>cases a.Specs.all RX<;>cases (a.Effects.all fun e=>Zu e a.Specs.length)<;>simp
 ·have hb:(if(if(if(!q)=true then true else decide ((4:Int)<(a.Specs.length:Int)))=true then true else(a.Effects.length:Int)==(0:Int))=true then true else decide ((8:Int)<(a.Effects.length:Int)))=true:=by
   have:(4<a.Specs.length)∨a.Effects.length=0∨8<a.Effects.length:=by omega
   rcases this with h | h | h
   ·rw [decide_eq_true (p:=(4:Int)<(a.Specs.length:Int)) (by omega)]
    cases q<;>rfl
   ·rw [h]
    cases q<;>cases decide ((4:Int)<(a.Specs.length:Int))<;>rfl
   ·rw [decide_eq_true (p:=(8:Int)<(a.Effects.length:Int)) (by omega)]
    cases q<;>cases decide ((4:Int)<(a.Specs.length:Int))<;>cases (a.Effects.length:Int)==0<;>rfl
  rw [hb,decide_eq_false hl]
  simp
def ec (a:AN):Bool:=(Ds a).getD false
theorem iN {l:List C0} (h:l.length<9223372036854775807):Rj l=some (UT l&&decide (l.length≤4)):=by
 unfold Rj
 rw [XS (l:=l) (q:=RX) (B:=fun v=>HH l v) h (fun i h'=>by
     show HH l (i:Int)=_
     unfold HH
     rw [if_pos (by simpa using h'),B8 h']
     simp only [Option.bind_some,fO]
     exact aW (by omega)) (by
     show HH l _=_
     unfold HH;rw [if_neg (by simp)])]
 unfold Qo UT
 have:decide ((l.length:Int)≤4)=decide (l.length≤4):=by rw [Bool.eq_iff_iff];simp;omega
 rw [this]
 cases l.all RX<;>rfl
theorem lB {l:List Aw} {n:Int} (h:l.length<9223372036854775807):NS l n=some (ZB l n&&decide (1≤l.length∧l.length≤8)):=by
 unfold NS
 rw [XS (l:=l) (q:=fun e=>Zu e n) (B:=fun v=>FL l n v) h (fun i h'=>by
     show FL l n (i:Int)=_
     unfold FL
     rw [if_pos (by simpa using h'),B8 h']
     simp only [Option.bind_some,nD]
     exact aW (by omega)) (by
     show FL l n _=_
     unfold FL;rw [if_neg (by simp)])]
 unfold NR ZB
 have:(if(decide ((1:Int)≤(l.length:Int)))=true then decide ((l.length:Int)≤(8:Int))else false)=decide (1≤l.length∧l.length≤8):=by rw [Bool.eq_iff_iff];simp;omega
 rw [Option.bind_some,this]
 cases (l.all fun e=>Zu e n)<;>rfl
def gb (a:AN):Prop:=a.Specs.length<9223372036854775807∧a.Effects.length<9223372036854775807
theorem iO (a:AN): ∃ b,Ds a=some b∧(gb a→Pg a=some b):=by
 have zf:(⟨(0:Int),(0:Int),(0:Int),(0:Int),(0:Int),(0:Int),(0:Int),[],(0:Int),(0:Int),(⟨(0:Int),(0:Int)⟩:Ae),(⟨(0:Int),(0:Int)⟩:Ae),(⟨(0:Int),(0:Int)⟩:Ae)⟩:Af)=zF:=rfl
 have zr:(⟨(0:Int),(0:Int),zF,(0:Int),(0:Int),(0:Int),(0:Int)⟩:AJ)=dN:=rfl
 have zt:(⟨(0:Int),(0:Int),zF⟩:By)=dZ:=rfl
 have zp:(⟨(⟨(0:Int),(0:Int),(⟨(0:Int),(0:Int),(0:Int),(0:Int),(0:Int)⟩:A5 (Int))⟩:A1),false,false,(0:Int)⟩:CG)=dY:=rfl
 obtain⟨w,w1,w2,w3⟩:=aX a.Mods
 obtain⟨v,v1,v2,v3⟩:=cu a.Mods
 have e0:((a.Mods.length:Int)==(([]:List Bx).length :Int))=(a.Mods.length==0):=by rw [Bool.eq_iff_iff];simp
 have e1:((a.Specs.length:Int)==(([]:List C0).length :Int))=(a.Specs.length==0):=by rw [Bool.eq_iff_iff];simp
 have e2:((a.Effects.length:Int)==(([]:List Aw).length :Int))=(a.Effects.length==0):=by rw [Bool.eq_iff_iff];simp
 have e3:decide ((0:Int)<(a.Mods.length:Int))= !(a.Mods.length==0):=by
  generalize a.Mods=l
  cases l
  ·rfl
  ·rw [decide_eq_true (by simp only [List.length_cons];omega)];rfl
 have e4:((a.Specs.length:Int)==0)=(a.Specs.length==0):=by rw [Bool.eq_iff_iff];simp
 have e5:((a.Effects.length:Int)==0)=(a.Effects.length==0):=by rw [Bool.eq_iff_iff];simp
 have e6: ∀ h:gb a,Kx a true=some (cw a):=fun h=>by
  unfold Kx cw
  simp only [iN h.1,lB h.2,PG,Option.bind_some,if_true]
  by_cases q1:a.Specs.length≤4<;>by_cases q2:1≤a.Effects.length∧a.Effects.length≤8<;>cases UT a.Specs<;>cases ZB a.Effects a.Specs.length<;>simp [q1,q2]
 have e7:Kx a false=some ((a.Specs.length==0)&&(a.Effects.length==0)):=by
  unfold Kx
  simp only [e4,e5,Option.bind_some,O0]
  rfl
 by_cases hk:a.Kind=1∨a.Kind=2∨a.Kind=3∨a.Kind=4∨a.Kind=5
 ·rcases hk with k | k | k | k | k
  ·refine⟨(a.Filter.Zone==0&&Lu a.Filter&&K5 a.Mods)&&((a.Price==dY)&&(a.Slow==false)&&(a.Trigger==dZ)&&(a.May==false)&&(a.Specs.length==0)&&(a.Effects.length==0)&&(a.Replace==dN)),?_,fun hl=>?_⟩
   ·unfold Ds
    simp only [zf,zr,zt,zp]
    rw [if_pos (by simpa using k)]
    simp only [bb,D1,w1,PG,Option.bind_some,e1,e2,beq_self_eq_true,Bool.true_and]
    congr 1
    cases a.Filter.Zone==0<;>cases Lu a.Filter<;>cases a.Price==dY<;>cases a.Slow<;>cases a.Trigger==dZ<;>cases a.May<;>cases a.Specs.length==0<;>cases a.Effects.length==0<;>cases a.Replace==dN<;>simp [w3]
   ·unfold Pg Jo Jn Jm
    simp only [zf,zr,zt,zp,k]
    simp only [show decide ((1:Int)<1)=false from rfl,show decide ((5:Int)<1)=false from rfl,show ((1:Int)==2)=false from rfl,show ((1:Int)==3)=false from rfl,show ((1:Int)==4)=false from rfl,show ((1:Int)==5)=false from rfl,show ((1:Int)==1)=true from rfl,Option.bind_some,if_true,if_false,Bool.false_eq_true,NV,v1,PG,e7]
    cases hz:a.Filter.Zone==0<;>cases Lu a.Filter<;>cases a.Price==dY<;>cases a.Slow<;>cases a.Trigger==dZ<;>cases a.May<;>cases a.Replace==dN<;>simp [v2,bne,hz]
    all_goals cases K5 a.Mods<;>simp
  ·refine⟨_,by unfold Ds;rw [if_neg (by simp [k]),if_neg (by simp [k]),if_pos (by simp [k]),zf,zt,zp,j5],fun hl=>?_⟩
   unfold Pg Jo Jn Jm
   simp only [zf,zr,zt,zp,k]
   simp only [show decide ((2:Int)<1)=false from rfl,show decide ((5:Int)<2)=false from rfl,show ((2:Int)==2)=true from rfl,show ((2:Int)==3)=false from rfl,show ((2:Int)==4)=false from rfl,show ((2:Int)==5)=false from rfl,show ((2:Int)==1)=false from rfl,Option.bind_some,if_true,if_false,Bool.false_eq_true,e3,e6 hl,bne,Bool.not_false,Bool.true_or]
   cases a.Filter==zF<;>cases a.Mods.length==0<;>cases a.Price==dY<;>cases a.Slow<;>cases a.Trigger==dZ<;>cases a.May<;>cases a.Replace==dN<;>simp
  ·refine⟨_,by unfold Ds;rw [if_neg (by simp [k]),if_neg (by simp [k]),if_neg (by simp [k]),if_pos (by simp [k]),zf,zt,j5],fun hl=>?_⟩
   unfold Pg Jo Jn Jm
   simp only [zf,zr,zt,zp,k]
   simp only [show decide ((3:Int)<1)=false from rfl,show decide ((5:Int)<3)=false from rfl,show ((3:Int)==2)=false from rfl,show ((3:Int)==3)=true from rfl,show ((3:Int)==4)=false from rfl,show ((3:Int)==5)=false from rfl,show ((3:Int)==1)=false from rfl,Option.bind_some,if_true,if_false,Bool.false_eq_true,e3,e6 hl,bne,Bool.not_false,Bool.not_true,Bool.true_or,Bool.false_or,iA,beq_self_eq_true]
   cases a.Filter==zF<;>cases a.Mods.length==0<;>cases JT a.Price<;>cases a.Trigger==dZ<;>cases a.May<;>cases a.Replace==dN<;>simp
  ·refine⟨_,by unfold Ds;rw [if_neg (by simp [k]),if_neg (by simp [k]),if_neg (by simp [k]),if_neg (by simp [k]),if_pos (by simp [k]),zp,j5],fun hl=>?_⟩
   unfold Pg Jo Jn Jm
   simp only [zf,zr,zt,zp,k]
   simp only [show decide ((4:Int)<1)=false from rfl,show decide ((5:Int)<4)=false from rfl,show ((4:Int)==2)=false from rfl,show ((4:Int)==3)=false from rfl,show ((4:Int)==4)=true from rfl,show ((4:Int)==5)=false from rfl,show ((4:Int)==1)=false from rfl,Option.bind_some,if_true,if_false,Bool.false_eq_true,e3,e6 hl,bne,Bool.not_false,Bool.not_true,Bool.true_or,Bool.false_or,nB,beq_self_eq_true]
   cases a.Filter==zF<;>cases a.Mods.length==0<;>cases a.Price==dY<;>cases a.Slow<;>cases dJ a.Trigger<;>cases a.Replace==dN<;>simp
  ·refine⟨fV a.Replace&&((a.Filter==zF)&&(a.Mods.length==0)&&(a.Price==dY)&&(a.Slow==false)&&(a.Trigger==dZ)&&(a.May==false)&&(a.Specs.length==0)&&(a.Effects.length==0)),?_,fun hl=>?_⟩
   ·unfold Ds
    simp only [zf,zr,zt,zp]
    rw [if_neg (by simp [k]),if_pos (by simpa using k)]
    simp only [bb,jL,PG,Option.bind_some,e0,e1,e2,beq_self_eq_true,Bool.and_true]
    congr 1
    cases a.Filter==zF<;>cases a.Mods.length==0<;>cases a.Price==dY<;>cases a.Slow<;>cases a.Trigger==dZ<;>cases a.May<;>cases a.Specs.length==0<;>cases a.Effects.length==0<;>simp
   ·unfold Pg Jo Jn Jm
    simp only [zf,zr,zt,zp,k]
    simp only [show decide ((5:Int)<1)=false from rfl,show decide ((5:Int)<5)=false from rfl,show ((5:Int)==2)=false from rfl,show ((5:Int)==3)=false from rfl,show ((5:Int)==4)=false from rfl,show ((5:Int)==5)=true from rfl,show ((5:Int)==1)=false from rfl,Option.bind_some,if_true,if_false,Bool.false_eq_true,e3,e7,bne,Bool.not_false,Bool.not_true,nC]
    cases a.Filter==zF<;>cases a.Mods.length==0<;>cases a.Price==dY<;>cases a.Slow<;>cases a.Trigger==dZ<;>cases a.May<;>cases fV a.Replace<;>simp
 ·have k1:(a.Kind==1)=false:=by simp;omega
  have k2:(a.Kind==2)=false:=by simp;omega
  have k3:(a.Kind==3)=false:=by simp;omega
  have k4:(a.Kind==4)=false:=by simp;omega
  have k5:(a.Kind==5)=false:=by simp;omega
  refine⟨false,?_,fun hl=>?_⟩
  ·unfold Ds
   simp only [k1,k2,k3,k4,k5,Bool.false_eq_true,if_false]
  ·unfold Pg
   rw [Option.bind_some,if_pos (by simp;omega)]
theorem lD (a:AN):Ds a=some (ec a):=by
 obtain⟨b,h, -⟩:=iO a
 unfold ec;rw [h];rfl
def nF (c:A3 Int):Bool:= !(List.range 3).any fun i=>MY 1000000 (c.l.getD i default)
theorem nG (c:A3 Int):KT c=some (nF c):=by
 unfold KT nF
 rw [cf (p:=fun i=>MY 1000000 (c.l.getD i default)) (f:=fun i=>(i:Int)) (B:=fun v=>Gx c v) 3 (by omega) (fun i hi=>by
  show Gx c (i:Int)=_
  unfold Gx
  rw [if_pos (by simp only [bz];omega),WC (l:=c.l) hi,wrapS' (by omega)]
  simp only [Option.bind_some,rb]
  cases MY 1000000 (c.l.getD i default)<;>rfl) rfl]
 cases h:(List.range 3).find? (fun i=>MY 1000000 (c.l.getD i default))with
 | none=>rw [Jx h];rfl
 | some i=>
   rw [(GC h).1]
   show Fb (i:Int)=_
   unfold Fb
   rw [decide_eq_true (by omega)]
def VL (o:Ao) (nc np:Int):Bool:=(IG o nc np).getD false
theorem nH (a b c:Int):Hj a b c=some (decide (b≤a)&&decide (a≤c)):=by
 unfold Hj
 simp only [Option.bind_some,O0]
theorem nI (o:Ao) (nc np:Int):T (IG o nc np):=by
 unfold IG IT JG
 simp only [Option.bind_some,nH,nG,PG,jE]
 exact⟨_,rfl⟩
theorem nJ (o:Ao) (nc np:Int):IG o nc np=some (VL o nc np):=by
 obtain⟨b,h⟩:=nI o nc np
 unfold VL;rw [h];rfl
def cx (o:Ao):Ao:={{{o with Damage:=(0:Int)}with Deadly:=false}with Shield:=(0:Int)}
def XZ (o:Ao):Ao:={{{o with Attack:=(-1:Int)}with Blocked:=false}with Blocks:=(0:Int)}
theorem oX (o:Ao):IT o=some (cx o):=rfl
theorem oY (o:Ao):JG o=some (XZ o):=rfl
theorem pM (b q:Bool):(if b=true then false else q)=(!b&&q):=by cases b<;>rfl
end Go.PL
