/- Functions of the program, as partial functions in Lean, with proofs. -/
import Derived.Test.YteginlijmbcopaaGreatDoorPlBdB
namespace Go.PL
open Go Go.RowKit Go.Proofs
set_option maxRecDepth 100000
set_option linter.all false
set_option maxHeartbeats 4000000
attribute [local irreducible] Ae Cq Cl
def XX (arL:List (Int)):Option ((List (Int))):=
 some arL
def VS (agj:Int) (aug:List (Int)):Option ((Int×(List (Int)))⊕((List (Int)))):=
 some (.inl ((Aa (agj+1)),aug))
def XY (a0:Ai) (agj:Int) (amC:List (Int)):Option ((Int×(List (Int)))⊕((List (Int)))):=
 (if(decide (agj<(a0.g_.length:Int))) then
  jn (fun(v:(List (Int)))=>VS agj v) (fun agH=>
  (idx a0.g_ agj).bind fun e13=>
  (if !e13.am9 then
   (app 8 amC ([agj]:List (Int))).bind fun l15=>
   agH l15
  else
   agH amC))
 else
  some (.inr amC))
def NG (a0:Ai):Option ((List (Int))):=
 jn (fun(v:(List (Int)))=>XX v) (fun H_=>
 (iter (fun(v:Int×(List (Int)))=>XY a0 v.1 v.2) FU ((0:Int),([]:List (Int)))).bind (fun o0=>H_ o0))
def Pq:Bb:=mC [] 76 Tryz.f76 (.s .n (.s .n (.j ⟨[],[(3, .c (.c (.e_ [3])))],[],[([3], .row 3)]⟩ (.s .n (.l ⟨[7,8],[(3, .c (.c (.e_ [3]))),Bd 9],[],[([3], .row 3)]⟩ [(1,⟨[],[(3, .c (.c (.e_ [3])))],[],[([3], .row 3)]⟩)] (.s .n (.s .n (.j ⟨[7,8,9],[(3, .c (.c (.e_ [3])))],[],[([3], .row 3)]⟩ .n .n))))) .n))) [.s 36] [.k (.l_ 3)] (fun x=>NG x.1) Tryz.func76 (by kernel_rfl)
def LS (a0:Int):Option (Bool):=
 some (a0 != a0)
def XZ:Bb:=mC [] 162 Tryz.f162 .n [.k (.int .i64)] [.k (.bool)] (fun x=>LS x.1) Tryz.func162 (by kernel_rfl)
def ME:Option (Int):=
 some (-1:Int)
def MF (a0:List (Int)) (a1:Int) (afI:Int):Option ((Int)⊕(Unit⊕Int)):=
 (if(decide (afI<(a0.length:Int))) then
  (idx a0 afI).bind fun e7=>
  (if a1==e7 then
   some (.inr (.inr afI))
  else
   some (.inl (Aa (afI+1))))
 else
  some (.inr (.inl ())))
def EJ (a0:List (Int)) (a1:Int):Option (Int):=
 jn (fun(v:Unit)=>ME) (fun jJ1=>
 (iter (fun(v:Int)=>MF a0 a1 v) FU (0:Int)).bind (Sum.elim (fun o0=>jJ1 ()) (fun o1=>some o1)))
def GV:Bb:=mC [] 115 Tryz.f115 (.s .n (.j IT (.s .n (.l ⟨[0,1,7],[Bd 8],[],[]⟩ [(1,IT),(0,⟨[],[Bd 4],[],[]⟩)] .n)) .n)) [.k (.l_ 3), .k (.int .i64)] [.k (.int .i64)] (fun x=>EJ x.1 x.2.1) Tryz.func115 (by kernel_rfl)
def dC (atD:Int):Option (Int):=
 some atD
def dD (H_:(Int)->Option (Int)):Option (Int):=
 H_ (-1:Int)
def dE (a0:Ai) (a1:Int) (agk:Int):Option ((Int)⊕(Unit⊕Int)):=
 (if(decide (agk<(a0.d_.length:Int))) then
  (idx a0.d_ agk).bind fun e9=>
  (if e9.Id==a1 then
   some (.inr (.inr agk))
  else
   some (.inl (Aa (agk+1))))
 else
  some (.inr (.inl ())))
def bD (a0:Ai) (a1:Int):Option (Int):=
 jn (fun(v:Int)=>dC v) (fun H_=>
 jn (fun(v:Unit)=>dD H_) (fun jJ3=>
 (iter (fun(v:Int)=>dE a0 a1 v) FU (0:Int)).bind (Sum.elim (fun o0=>jJ3 ()) (fun o1=>H_ o1))))
def kK:Bb:=mC [] 163 Tryz.f163 (.s .n (.s (.r [] [] (.j 3 ⟨[],[Bd 8],[],[]⟩ (.s .n (.j ⟨[],[],[[2],[3]],[]⟩ (.s .n (.l ⟨[0,1,7],[Bd 8],[[2],[3]],[]⟩ [(1,⟨[],[],[[2],[3]],[]⟩),(0,⟨[],[Bd 4],[[2],[3]],[]⟩)] (.s .n (.s .n (.s (.s .n (.s (.r [] [] (.c 5 .n .n)) .n)) .n))))) .n)) .n)) .n)) [.s 36, .k (.int .i64)] [.k (.int .i64)] (fun x=>bD x.1 x.2.1) Tryz.func163 (by kernel_rfl)
def dF (a0:Cb) (ari:Bool):Option (Bool):=
 (if ari then
  some ((a0.Options.length:Int)==0)
 else if a0.Kind==3 then
  (some (if a0.aes==0 then true else a0.aes==(a0.Options.length:Int))).bind fun b8=>
  (some (if a0.aes==a0.aoG then b8 else false)).bind fun b9=>
  some b9
 else if a0.Kind==5 then
  some (a0.aes==a0.aoG)
 else
  some true)
def dG (a0:Cb) (atB:Bool):Option (Bool):=
 (if atB then
  some (decide ((a0.Options.length:Int)<=1))
 else
  jn (fun(v:Bool)=>dF a0 v) (fun jJ5=>
  (if a0.Kind==6 then
   jJ5 (a0.Kind==6)
  else
   jJ5 (a0.Kind==7))))
def bG (a0:Cb):Option (Bool):=
 jn (fun(v:Bool)=>dG a0 v) (fun H_=>
 (if a0.Kind==1 then
  H_ (a0.Kind==1)
 else if a0.Kind==2 then
  H_ (a0.Kind==2)
 else if a0.Kind==9 then
  H_ (a0.Kind==9)
 else if a0.Kind==10 then
  H_ (a0.Kind==10)
 else if a0.Kind==11 then
  H_ (a0.Kind==11)
 else if a0.Kind==4 then
  H_ (a0.Kind==4)
 else
  H_ (a0.Kind==8)))
def kL:Bb:=mC [] 79 Tryz.f79 (.s .n (.s .n (.s (.s .n (.j ⟨[1,3,8],[ES 9],[[1]],[]⟩ .n (.i .n (.j ⟨[1,3,8],[ES 19],[[1]],[]⟩ .n .n)))) .n))) [.s 54] [.k (.bool)] (fun x=>bG x.1) Tryz.func79 (by kernel_rfl)
def kM (arL:List (Int)):Option ((List (Int))):=
 some arL
def kN (a0:Int) (ank:Int) (amC:List (Int)):Option ((Int×(List (Int)))⊕((List (Int)))):=
 (if decide (ank<a0) then
  (app 8 amC ([ank]:List (Int))).bind fun l11=>
  some (.inl ((Aa (ank+1)),l11))
 else
  some (.inr amC))
def VU (a0:Int):Option ((List (Int))):=
 jn (fun(v:(List (Int)))=>kM v) (fun H_=>
 (iter (fun(v:Int×(List (Int)))=>kN a0 v.1 v.2) FU ((0:Int),([]:List (Int)))).bind (fun o0=>H_ o0))
def oJ:Bb:=mC [] 121 Tryz.f121 (.s .n (.s .n (.j ⟨[],[(3, .c (.c (.e_ [3])))],[],[([3], .row 3)]⟩ (.s .n (.l ⟨[5],[(3, .c (.c (.e_ [3]))),Bd 6],[],[([3], .row 3)]⟩ [(1,⟨[],[(3, .c (.c (.e_ [3])))],[],[([3], .row 3)]⟩)] .n)) .n))) [.k (.int .i64)] [.k (.l_ 3)] (fun x=>VU x.1) Tryz.func121 (by kernel_rfl)
def X0 (a0:Cb) (a1:List (Int)) (anu:Int):Option (Bool):=
 (some (if((a1.length:Int)==(a0.Options.length:Int)) then anu==a0.N else false)).bind fun b3=>
 some b3
def VV (a1:List (Int)) (aj1:Int) (ak0:Int):Option ((Int×Int)⊕(Int⊕Bool)):=
 (if(decide (ak0<(a1.length:Int))) then
  (idx a1 ak0).bind fun e12=>
  (some (if decide (e12<0) then true else decide (1000000<e12))).bind fun b13=>
  (if b13 then
   some (.inr (.inr false))
  else
   some (.inl ((Aa (aj1+e12)),(Aa (ak0+1)))))
 else
  some (.inr (.inl aj1)))
def TZ (a0:Cb) (a1:List (Int)):Option (Bool):=
 jn (fun(v:Int)=>X0 a0 a1 v) (fun H_=>
 (iter (fun(v:Int×Int)=>VV a1 v.1 v.2) FU ((0:Int),(0:Int))).bind (Sum.elim (fun o0=>H_ o0) (fun o1=>some o1)))
def bH:Bb:=mC [] 124 Tryz.f124 (.s .n (.s .n (.j ⟨[1,2],[Bd 5],[[2]],[]⟩ (.s .n (.l ⟨[1,2,8,9],[Bd 5,Bd 10],[[2]],[]⟩ [(1,⟨[1,2],[Bd 5],[[2]],[]⟩),(0,⟨[],[ES 4],[],[]⟩)] .n)) .n))) [.s 54, .k (.l_ 3)] [.k (.bool)] (fun x=>TZ x.1 x.2.1) Tryz.func124 (by kernel_rfl)
def T0 (a0:Int):Option (Bool):=
 (some (if decide (97<=a0) then decide (a0<=122)else false)).bind fun b1=>
 some b1
def w5:Bb:=mC [] 159 Tryz.f159 .n [.k (.int .u8)] [.k (.bool)] (fun x=>T0 x.1) Tryz.func159 (by kernel_rfl)
def iz:Option (Bool):=
 some true
def D1 (a0:Az) (ag0:Int):Option ((Int)⊕(Unit⊕Bool)):=
 (if decide (ag0<5) then
  (idx a0.Color.l ag0).bind fun e11=>
  (idx a0.Color.l ag0).bind fun e12=>
  (gd ((decide (e12<0))==false) (idx a0.Color.l ag0)).bind fun e13=>
  (gd ((decide (e12<0))==false) (idx a0.Color.l ag0)).bind fun e14=>
  (some (if decide (e12<0) then true else decide (9<e14))).bind fun b15=>
  (if b15 then
   some (.inr (.inr false))
  else
   some (.inl (Aa (ag0+1))))
 else
  some (.inr (.inl ())))
def VW (a0:Az):Option (Bool):=
 (some (if decide (a0.Generic<0) then true else decide (99<a0.Generic))).bind fun b1=>
 (some (if b1 then true else decide (a0.X<0))).bind fun b2=>
 (some (if b2 then true else decide (2<a0.X))).bind fun b3=>
 (if b3 then
  some false
 else
  jn (fun(v:Unit)=>iz) (fun jJ5=>
  (iter (fun(v:Int)=>D1 a0 v) FU (0:Int)).bind (Sum.elim (fun o0=>jJ5 ()) (fun o1=>some o1))))
def bI:Bb:=mC [] 106 Tryz.f106 (.s .n (.s .n (.j IT (.s .n (.l ⟨[1],[Bd 3],[[1]],[]⟩ [(1,IT),(0,⟨[],[ES 2],[],[]⟩)] .n)) .n))) [.s 99] [.k (.bool)] (fun x=>VW x.1) Tryz.func106 (by kernel_rfl)
def KH:Option ((List (List UInt8))):=
 some ([Qi,No]:List (List UInt8))
def VX:Bb:=mC [] 213 Tryz.f213 .n [] [.k (.l_ 9)] (fun x=>KH) Tryz.func213 (by kernel_rfl)
def kO:Option (Int):=
 some (-1:Int)
def GW (a0:List (List UInt8)) (a1:List UInt8) (aal:Int):Option ((Int)⊕(Unit⊕Int)):=
 (if(decide (aal<(a0.length:Int))) then
  (idx a0 aal).bind fun e7=>
  (if e7==a1 then
   some (.inr (.inr aal))
  else
   some (.inl (Aa (aal+1))))
 else
  some (.inr (.inl ())))
def MG (a0:List (List UInt8)) (a1:List UInt8):Option (Int):=
 jn (fun(v:Unit)=>kO) (fun jJ1=>
 (iter (fun(v:Int)=>GW a0 a1 v) FU (0:Int)).bind (Sum.elim (fun o0=>jJ1 ()) (fun o1=>some o1)))
def oK:Bb:=mC [] 212 Tryz.f212 (.s .n (.j IT (.s .n (.l ⟨[0,1],[Bd 5],[],[]⟩ [(1,IT),(0,⟨[],[Bd 4],[],[]⟩)] .n)) .n)) [.k (.l_ 9), .k (.str)] [.k (.int .i64)] (fun x=>MG x.1 x.2.1) Tryz.func212 (by kernel_rfl)
def H7:Option ((List (List UInt8))):=
 some ([GH,Ix,KB,Mt,Mu,Ph]:List (List UInt8))
def Of:Bb:=mC [] 214 Tryz.f214 .n [] [.k (.l_ 9)] (fun x=>H7) Tryz.func214 (by kernel_rfl)
def sx (agY:Int):Option (Bool):=
 some ((Int.tmod agY (2:Int))==(1:Int))
def sy (a1:Int) (adR:Int) (ah8:Int):Option ((Int×Int)⊕(Int)):=
 (if decide (ah8<a1) then
  some (.inl ((Aa (Int.tdiv adR (2:Int))),(Aa (ah8+1))))
 else
  some (.inr adR))
def Lw (a0:Int) (a1:Int):Option (Bool):=
 jn (fun(v:Int)=>sx v) (fun H_=>
 (iter (fun(v:Int×Int)=>sy a1 v.1 v.2) FU (a0,(0:Int))).bind (fun o0=>H_ o0))
def iA:Bb:=mC [] 161 Tryz.f161 (.s .n (.j ⟨[],[Bd 0],[],[]⟩ (.s .n (.l ⟨[1],[Bd 0,Bd 5],[],[]⟩ [(1,⟨[],[Bd 0],[],[]⟩)] .n)) .n)) [.k (.int .i64), .k (.int .i64)] [.k (.bool)] (fun x=>Lw x.1 x.2.1) Tryz.func161 (by kernel_rfl)
def Pr (a0:Int):Option (Bool):=
 (some (if decide (0<=a0) then decide (a0<=131071)else false)).bind fun b1=>
 some b1
def oL:Bb:=mC [] 108 Tryz.f108 .n [.k (.int .i64)] [.k (.bool)] (fun x=>Pr x.1) Tryz.func108 (by kernel_rfl)
def Jp (a0:AO):Option (Bool):=
 some ((Fn .i64 a0.adu.Types (1:Int)) != (0:Int))
def bJ:Bb:=mC [] 109 Tryz.f109 .n [.s 102] [.k (.bool)] (fun x=>Jp x.1) Tryz.func109 (by kernel_rfl)
def kP:Option (Bool):=
 some true
def dH (aoE:Int) (amk:Int) (abR:Int):Option ((Int×Int×Int)⊕(Unit⊕Bool)):=
 (if decide (abR<6) then
  (some (if((Int.tmod aoE (2:Int))==(1:Int)) then(Int.tmod amk (2:Int))==(1:Int)else false)).bind fun b15=>
  (if b15 then
   some (.inr (.inr false))
  else
   some (.inl ((Aa (Int.tdiv aoE (2:Int))),(Aa (Int.tdiv amk (2:Int))),(Aa (abR+1)))))
 else
  some (.inr (.inl ())))
def E5 (a0:Int) (a1:Int) (a2:Int):Option (Bool):=
 (some (if decide (a0<0) then true else decide (a2<a0))).bind fun b1=>
 (some (if b1 then true else decide (a1<0))).bind fun b2=>
 (some (if b2 then true else decide (a2<a1))).bind fun b3=>
 (if b3 then
  some false
 else
  jn (fun(v:Unit)=>kP) (fun jJ5=>
  (iter (fun(v:Int×Int×Int)=>dH v.1 v.2.1 v.2.2) FU (a0,a1,(0:Int))).bind (Sum.elim (fun o0=>jJ5 ()) (fun o1=>some o1))))
def oM:Bb:=mC [] 183 Tryz.f183 (.s .n (.s .n (.j IT (.s .n (.l ⟨[],[Bd 0,Bd 1,Bd 7],[],[]⟩ [(1,IT),(0,⟨[],[ES 6],[],[]⟩)] .n)) .n))) [.k (.int .i64), .k (.int .i64), .k (.int .i64)] [.k (.bool)] (fun x=>E5 x.1 x.2.1 x.2.2.1) Tryz.func183 (by kernel_rfl)
def JJ (a0:Ac):Option (Bool):=
 (some (if decide (a0.Kind<0) then true else decide (3<a0.Kind))).bind fun b1=>
 (some (if b1 then true else decide (a0.N<0))).bind fun b2=>
 (some (if b2 then true else decide (1000000<a0.N))).bind fun b3=>
 (if b3 then
  some false
 else
  (some (if a0.Kind != 0 then true else a0.N==0)).bind fun b5=>
  some b5)
def oN:Bb:=mC [] 184 Tryz.f184 .n [.s 108] [.k (.bool)] (fun x=>JJ x.1) Tryz.func184 (by kernel_rfl)
def Xt (asE:AZ):Option (AZ):=
 some asE
def T1 (a0:AZ) (H_:(AZ)->Option (AZ)) (ao_:Bool):Option (AZ):=
 (if ao_ then
  H_ ({{{a0 with Kind:=(0:Int)}with N:=(0:Int)}with M:=(0:Int)})
 else
  H_ ({a0 with Kind:=(0:Int)}))
def Xu (a0:AZ) (H_:(AZ)->Option (AZ)) (arj:Bool):Option (AZ):=
 (if arj then
  H_ ({{a0 with Kind:=(0:Int)}with Sub:=([]:List UInt8)})
 else if a0.Kind==11 then
  H_ ({{a0 with Kind:=(0:Int)}with Filter:=(⟨0,0,0,0,0,0,0,[],0,0,(⟨0,0⟩:Ac),(⟨0,0⟩:Ac),(⟨0,0⟩:Ac)⟩:Ag)})
 else
  jn (fun(v:Bool)=>T1 a0 H_ v) (fun aaR=>
  (if a0.Kind==12 then
   aaR (a0.Kind==12)
  else
   aaR (a0.Kind==13))))
def Xv (a0:AZ) (H_:(AZ)->Option (AZ)) (afI:Bool):Option (AZ):=
 (if afI then
  H_ ({{a0 with Kind:=(0:Int)}with N:=(0:Int)})
 else
  jn (fun(v:Bool)=>Xu a0 H_ v) (fun jJ7=>
  (if a0.Kind==4 then
   jJ7 (a0.Kind==4)
  else
   jJ7 (a0.Kind==5))))
def bK (a0:AZ):Option (AZ):=
 jn (fun(v:AZ)=>Xt v) (fun H_=>
 jn (fun(v:Bool)=>Xv a0 H_ v) (fun jJ4=>
 (if a0.Kind==2 then
  jJ4 (a0.Kind==2)
 else if a0.Kind==3 then
  jJ4 (a0.Kind==3)
 else if a0.Kind==6 then
  jJ4 (a0.Kind==6)
 else if a0.Kind==7 then
  jJ4 (a0.Kind==7)
 else if a0.Kind==8 then
  jJ4 (a0.Kind==8)
 else
  jJ4 (a0.Kind==9))))
def sA:Bb:=mC [] 193 Tryz.f193 (.s .n (.s .n (.s .n (.j ⟨[1,2],[],[[2]],[([1], .box [.v (.s 148)])]⟩ (.s .n (.j ⟨[1,2,7],[ES 8],[[1],[2]],[]⟩ .n (.i .n (.j ⟨[1,2,7],[ES 16],[[1],[2]],[]⟩ .n (.i .n (.s .n (.i .n (.j ⟨[1,2],[ES 24],[[1],[2]],[]⟩ .n .n)))))))) .n)))) [.s 148] [.s 148] (fun x=>bK x.1) Tryz.func193 (by kernel_rfl)
def Qq (a0:Int):Option (Bool):=
 (some (if decide (1<=a0) then decide (a0<=63)else false)).bind fun b1=>
 (some (if b1 then(Fn .i64 a0 (6:Int))==(0:Int)else false)).bind fun b2=>
 some b2
def oO:Bb:=mC [] 194 Tryz.f194 .n [.k (.int .i64)] [.k (.bool)] (fun x=>Qq x.1) Tryz.func194 (by kernel_rfl)
def kQ (a0:Int):Option (Bool):=
 (some (if decide (0<=a0) then decide (a0<=31)else false)).bind fun b1=>
 some b1
def zZ:Bb:=mC [] 233 Tryz.f233 .n [.k (.int .i64)] [.k (.bool)] (fun x=>kQ x.1) Tryz.func233 (by kernel_rfl)
def Ps (a0:Int):Option ((List UInt8)):=
 (if a0==0 then
  some wY
 else if a0==1 then
  some se
 else if a0==2 then
  some Acv
 else if a0==3 then
  some zT
 else if a0==4 then
  some oz
 else
  some ([]:List UInt8))
def bL:Bb:=mC [] 234 Tryz.f234 .n [.k (.int .i64)] [.k (.str)] (fun x=>Ps x.1) Tryz.func234 (by kernel_rfl)
def iB:Option ((List (List UInt8))):=
 some ([RQ,VD,VE,Nq,Pj,VJ,TO,RR,Nr,RS,Ns,RU,RV,Pl,du,Nt,XR]:List (List UInt8))
def oP:Bb:=mC [] 273 Tryz.f273 .n [] [.k (.l_ 9)] (fun x=>iB) Tryz.func273 (by kernel_rfl)
def QV:Option ((List (List UInt8))):=
 some ([([]:List UInt8),Pn,KC,HI,Nv,Nw]:List (List UInt8))
def X1:Bb:=mC [] 236 Tryz.f236 .n [] [.k (.l_ 9)] (fun x=>QV) Tryz.func236 (by kernel_rfl)
def T3:Option ((List (List UInt8))):=
 some ([([]:List UInt8),VF,RW]:List (List UInt8))
def bM:Bb:=mC [] 237 Tryz.f237 .n [] [.k (.l_ 9)] (fun x=>T3) Tryz.func237 (by kernel_rfl)
def QW:Option ((List (List UInt8))):=
 some ([([]:List UInt8),bi,VG]:List (List UInt8))
def X2:Bb:=mC [] 238 Tryz.f238 .n [] [.k (.l_ 9)] (fun x=>QW) Tryz.func238 (by kernel_rfl)
def T4:Option ((List (List UInt8))):=
 some ([([]:List UInt8),Ny,Jn]:List (List UInt8))
def bN:Bb:=mC [] 239 Tryz.f239 .n [] [.k (.l_ 9)] (fun x=>T4) Tryz.func239 (by kernel_rfl)
def sB (agY:Int):Option (Bool):=
 some ((Int.tmod agY (2:Int))==(1:Int))
def bO (a1:Int) (adR:Int) (ah8:Int):Option ((Int×Int)⊕(Int)):=
 (if decide (ah8<a1) then
  some (.inl ((Aa (Int.tdiv adR (2:Int))),(Aa (ah8+1))))
 else
  some (.inr adR))
def Lx (a0:Int) (a1:Int):Option (Bool):=
 jn (fun(v:Int)=>sB v) (fun H_=>
 (iter (fun(v:Int×Int)=>bO a1 v.1 v.2) FU (a0,(0:Int))).bind (fun o0=>H_ o0))
def w6:Bb:=mC [] 241 Tryz.f241 (.s .n (.j ⟨[],[Bd 0],[],[]⟩ (.s .n (.l ⟨[1],[Bd 0,Bd 5],[],[]⟩ [(1,⟨[],[Bd 0],[],[]⟩)] .n)) .n)) [.k (.int .i64), .k (.int .i64)] [.k (.bool)] (fun x=>Lx x.1 x.2.1) Tryz.func241 (by kernel_rfl)
def iD:Option ((List (List UInt8))):=
 some ([([]:List UInt8),VH,VI,kp]:List (List UInt8))
def oQ:Bb:=mC [] 274 Tryz.f274 .n [] [.k (.l_ 9)] (fun x=>iD) Tryz.func274 (by kernel_rfl)
def H8 (art:List UInt8):Option ((List UInt8)):=
 some art
def LT (aju:Int) (afU:List UInt8):Option ((Int×(List UInt8))⊕((List UInt8))):=
 (if decide (0<aju) then
  (k_ (∀ n∈([IntKind.u8.wrap (IntKind.u64.wrap ((48:Int)+(Int.tmod aju (10:Int))))]:List (Int)),0<=n/\n<256)).bind fun u11=>
  (cat (Kc ([IntKind.u8.wrap (IntKind.u64.wrap ((48:Int)+(Int.tmod aju (10:Int))))]:List (Int))) afU).bind fun s12=>
  some (.inl ((IntKind.u64.wrap (Int.tdiv aju (10:Int))),s12))
 else
  some (.inr afU))
def KI (a0:Int):Option ((List UInt8)):=
 (k_ (∀ n∈([IntKind.u8.wrap (IntKind.u64.wrap ((48:Int)+(Int.tmod a0 (10:Int))))]:List (Int)),0<=n/\n<256)).bind fun u1=>
 (iter (fun(v:Int×(List UInt8))=>LT v.1 v.2) FU ((IntKind.u64.wrap (Int.tdiv a0 (10:Int))),(Kc ([IntKind.u8.wrap (IntKind.u64.wrap ((48:Int)+(Int.tmod a0 (10:Int))))]:List (Int))))).bind (fun o0=>H8 o0)
def kR (a0:Int) (r:(List UInt8)):Prop:=Cd Tryz.prog I0 245 [.c (.int .u64 a0)] (· =vS r)
theorem dJ {a0:Int} {r:(List UInt8)} (h:KI a0=some r):kR a0 r:=by
 refine Cd.bo Ca Tryz.func245 rfl Tryz.ntmps245 [.tmp 2] fun _ _ _ _=>?_;unfold KI at h;refine Gg [.a] (u [] []) (aN) ?_;obtain⟨u1,y0,h⟩:=bS h;refine Gg [.a,.a,.a,.a,.a,(.v (vS (Kc ([IntKind.u8.wrap (IntKind.u64.wrap ((48:Int)+(Int.tmod a0 (10:Int))))]:List (Int))))),.a] (u [] [(3,vS (Kc ([IntKind.u8.wrap (IntKind.u64.wrap ((48:Int)+(Int.tmod a0 (10:Int))))]:List (Int))))]) (aC (show (10:Int) ≠ 0 from(by decide))<|aC (show (If Tryz.prog 227=true/\Eh Tryz.prog 9=true)/\1=1/\K3 (([IntKind.u8.wrap (IntKind.u64.wrap ((48:Int)+(Int.tmod a0 (10:Int))))]:List (Int)).flatMap (eI .u8))from⟨⟨by kernel_rfl,by kernel_rfl⟩,rfl,M4 (Cm y0)⟩)<|aC (congrArg (fun z=>V.c (.str z)) (OT ([IntKind.u8.wrap (IntKind.u64.wrap ((48:Int)+(Int.tmod a0 (10:Int))))]:List (Int))))<|aN)<|Sj (X:=(List UInt8)) (fun v=>(sl 25 [(3,vS v)] [])) (fun v=>H8 v=some r) ?_ ?_
 ·refine Gg (nA 3) (u [] [(0,.c (.int .u64 (IntKind.u64.wrap (Int.tdiv a0 (10:Int)))))]) (aC (show (10:Int) ≠ 0 from(by decide))<|aN)<|hB ?_;obtain⟨d1,q0,h⟩:=bS h;refine It (fun(v:Int×(List UInt8))=>(sl 25 [(0,.c (.int .u64 v.1)),(3,vS v.2)] [])) q0 (wT) ?_;rintro⟨i0,k0⟩ z0 j0 t0;replace j0:LT i0 k0=some z0:=j0;unfold LT at j0;refine hS<|Gg [.a,.a] (u [] [(13,vB (decide (0<i0)))]) (aN)<|iC j0 (fun j0=>?_) (fun j0=>?_)
  ·refine hK<|Tn<|hS<|hB ?_;obtain⟨i1,x0,o0,p0,j0⟩:=bS2 j0;refine Ge [.a,.a,.a,.a,.a,(.v (vS (Kc ([IntKind.u8.wrap (IntKind.u64.wrap ((48:Int)+(Int.tmod i0 (10:Int))))]:List (Int))))),.a,(.v (vS o0)),.a] (uo [] [(3,vS o0),(16,.c (.int .u64 i0)),(17,.c (.int .u64 (Int.tmod i0 (10:Int)))),(18,.c (.int .u64 (IntKind.u64.wrap ((48:Int)+(Int.tmod i0 (10:Int)))))),(19,.c (.int .u8 (IntKind.u8.wrap (IntKind.u64.wrap ((48:Int)+(Int.tmod i0 (10:Int))))))),(20,vO [20]),(21,vS (Kc ([IntKind.u8.wrap (IntKind.u64.wrap ((48:Int)+(Int.tmod i0 (10:Int))))]:List (Int)))),(22,vS k0),(23,vS o0)] [.e (Jh [20] 5 1 (eI .u8) ([IntKind.u8.wrap (IntKind.u64.wrap ((48:Int)+(Int.tmod i0 (10:Int))))]:List (Int)))]) (aC (show (10:Int) ≠ 0 from(by decide))<|aC (show (If Tryz.prog 227=true/\Eh Tryz.prog 9=true)/\1=1/\K3 (([IntKind.u8.wrap (IntKind.u64.wrap ((48:Int)+(Int.tmod i0 (10:Int))))]:List (Int)).flatMap (eI .u8))from⟨⟨by kernel_rfl,by kernel_rfl⟩,rfl,M4 (Cm x0)⟩)<|aC (congrArg (fun z=>V.c (.str z)) (OT ([IntKind.u8.wrap (IntKind.u64.wrap ((48:Int)+(Int.tmod i0 (10:Int))))]:List (Int))))<|aC (AdN p0)<|aC (congrArg (fun z=>V.c (.str z)) (AdO p0).symm)<|aN)<|qN<|Tn<|Ge (nA 3) (u [] [(0,.c (.int .u64 (IntKind.u64.wrap (Int.tdiv i0 (10:Int))))),(14,.c (.int .u64 i0)),(15,.c (.int .u64 (IntKind.u64.wrap (Int.tdiv i0 (10:Int)))))]) (aC (show (10:Int) ≠ 0 from(by decide))<|aN)<|Tn ⟨((IntKind.u64.wrap (Int.tdiv i0 (10:Int))),o0),(sI j0).symm,wT⟩
  refine hE<|Te ?_;obtain rfl:=t0 _ (sI j0).symm;refine Te<|qX<|Tn ⟨k0,h,wT⟩
 rintro m0 n0;replace n0:H8 m0=some r:=n0;unfold H8 at n0;exact Rg [.a,.a] (sl 25 [(2,vS m0)] []) (aN)<|hR<|bQ _ (congrArg vS (sI n0))def ajR:CE TE Tryz.prog I0:=⟨245,[.k (.int .u64)],[.k (.str)],fun x=>KI x.1,fun x r h=>Ms (by kernel_rfl) (dJ (r:=r) h),[],fun h=>absurd rfl h,none,(fun _ h=>nomatch h),none,(fun _ _ h=>nomatch h)⟩
def Xw (arq:List UInt8):Option ((List UInt8)):=
 some arq
def NH (a0:List (List UInt8)) (agZ:Int) (apl:List UInt8):Option (((List UInt8)×Int)⊕((List UInt8))):=
 (idx a0 agZ).bind fun e12=>
 (cat apl e12).bind fun s13=>
 some (.inl (s13,(Aa (agZ+1))))
def Xx (a0:List (List UInt8)) (a1:List UInt8) (ak_:List UInt8) (agZ:Int):Option (((List UInt8)×Int)⊕((List UInt8))):=
 (if(decide (agZ<(a0.length:Int))) then
  jn (fun(v:(List UInt8))=>NH a0 agZ v) (fun aaR=>
  (if decide (0<agZ) then
   (cat ak_ a1).bind fun s15=>
   aaR s15
  else
   aaR ak_))
 else
  some (.inr ak_))
def T5 (a0:List (List UInt8)) (a1:List UInt8):Option ((List UInt8)):=
 jn (fun(v:(List UInt8))=>Xw v) (fun H_=>
 (iter (fun(v:(List UInt8)×Int)=>Xx a0 a1 v.1 v.2) FU (([]:List UInt8),(0:Int))).bind (fun o0=>H_ o0))
def sC:Bb:=mC [] 244 Tryz.f244 (.s .n (.s .n (.j ⟨[],[Kt 5],[],[]⟩ (.s .n (.l ⟨[0,1],[Kt 5,Bd 6],[],[]⟩ [(1,⟨[],[Kt 5],[],[]⟩)] (.s .n (.s (.j ⟨[0,1,6],[Kt 5],[],[]⟩ .n .n) .n)))) .n))) [.k (.l_ 9), .k (.str)] [.k (.str)] (fun x=>T5 x.1 x.2.1) Tryz.func244 (by kernel_rfl)
def ID (a0:Int):Option ((List UInt8)):=
 (if a0==1 then
  some bj
 else if a0==2 then
  some bl
 else if a0==3 then
  some oA
 else if a0==4 then
  some Xr
 else if a0==5 then
  some bm
 else if a0==6 then
  some iq
 else if a0==7 then
  some ir
 else if a0==8 then
  some iu
 else if a0==9 then
  some iv
 else if a0==10 then
  some bn
 else if a0==11 then
  some uF
 else if a0==12 then
  some iw
 else if a0==13 then
  some iy
 else if a0==14 then
  some bp
 else
  some ([]:List UInt8))
def bP:Bb:=mC [] 185 Tryz.f185 .n [.k (.int .i64)] [.k (.str)] (fun x=>ID x.1) Tryz.func185 (by kernel_rfl)
def KJ (a0:Int):Option (Bool):=
 (some (if a0==8 then true else a0==9)).bind fun b1=>
 (some (if b1 then true else a0==10)).bind fun b2=>
 (some (if b2 then true else a0==11)).bind fun b3=>
 (some (if b3 then true else a0==12)).bind fun b4=>
 (some (if b4 then true else a0==13)).bind fun b5=>
 some b5
def T6:Bb:=mC [] 186 Tryz.f186 .n [.k (.int .i64)] [.k (.bool)] (fun x=>KJ x.1) Tryz.func186 (by kernel_rfl)
def JK (a0:Au):Option (Bool):=
 (some (if a0.AT != 0 then true else a0.r_ != 0)).bind fun b1=>
 (if b1 then
  some false
 else
  (some (if a0.Do==2 then true else a0.Do==4)).bind fun b3=>
  (if b3 then
   (some (if decide (1<=a0.N) then decide (a0.N<=99)else false)).bind fun b5=>
   some b5
  else
   some (a0.N==0)))
def oR:Bb:=mC [] 189 Tryz.f189 .n [.s 119] [.k (.bool)] (fun x=>JK x.1) Tryz.func189 (by kernel_rfl)
def MH (a0:Int):Option ((List UInt8)):=
 (some (if decide (a0<1) then true else decide (26<a0))).bind fun b1=>
 (if b1 then
  some ([]:List UInt8)
 else
  (idx ([Nz,Lr,TC,TD,Ls,TF,TG,TH,Ql,YM,TI,NA,YN,TJ,Lt,TK,NB,FA,TL,TM,NC,ND,TN,YO,NE,Qm]:List (List UInt8)) (Aa (a0 - 1))).bind fun e3=>
  (idx ([Nz,Lr,TC,TD,Ls,TF,TG,TH,Ql,YM,TI,NA,YN,TJ,Lt,TK,NB,FA,TL,TM,NC,ND,TN,YO,NE,Qm]:List (List UInt8)) (Aa (a0 - 1))).bind fun e4=>
  some e4)
def sD:Bb:=mC [] 224 Tryz.f224 .n [.k (.int .i64)] [.k (.str)] (fun x=>MH x.1) Tryz.func224 (by kernel_rfl)
def kS (ao8:Bool):Option ((List UInt8)):=
 (if ao8 then
  some ([]:List UInt8)
 else
  some Age)
def oS (a0:Int) (arl:Bool):Option ((List UInt8)):=
 (if arl then
  some Acx
 else if a0==12 then
  some Acy
 else if a0==13 then
  some Agd
 else if a0==14 then
  some AhR
 else if a0==18 then
  some Acz
 else if a0==20 then
  some AhS
 else if a0==21 then
  some AhT
 else
  jn (fun(v:Bool)=>kS v) (fun ad9=>
  (if a0==23 then
   ad9 (a0==23)
  else
   ad9 (a0==24))))
def oT (a0:Int) (atE:Bool):Option ((List UInt8)):=
 (if atE then
  some AhQ
 else if a0==3 then
  some Agc
 else
  jn (fun(v:Bool)=>oS a0 v) (fun jJ6=>
  (if a0==10 then
   jJ6 (a0==10)
  else
   jJ6 (a0==11))))
def oU (a0:Int):Option ((List UInt8)):=
 jn (fun(v:Bool)=>oT a0 v) (fun H_=>
 (if a0==2 then
  H_ (a0==2)
 else if a0==8 then
  H_ (a0==8)
 else if a0==9 then
  H_ (a0==9)
 else if a0==15 then
  H_ (a0==15)
 else if a0==16 then
  H_ (a0==16)
 else if a0==17 then
  H_ (a0==17)
 else
  H_ (a0==25)))
def sE:Bb:=mC [] 269 Tryz.f269 (.s .n (.s (.s .n (.j ⟨[3],[ES 4],[],[]⟩ .n (.i .n (.s .n (.i .n (.j ⟨[3],[ES 14],[],[]⟩ .n (.i .n (.s .n (.i .n (.s .n (.i .n (.s .n (.i .n (.s .n (.i .n (.s .n (.i .n (.s .n (.i .n (.j ⟨[],[ES 29],[],[]⟩ .n .n)))))))))))))))))))) .n)) [.k (.int .i64)] [.k (.str)] (fun x=>oU x.1) Tryz.func269 (by kernel_rfl)
def NI (a0:Int):Option (Bool):=
 (some (if a0==3 then true else a0==8)).bind fun b1=>
 some b1
def bR:Bb:=mC [] 270 Tryz.f270 .n [.k (.int .i64)] [.k (.bool)] (fun x=>NI x.1) Tryz.func270 (by kernel_rfl)
def Pt (a0:Int):Option ((List UInt8)):=
 (if a0==0 then
  some zU
 else if a0==1 then
  some wZ
 else if a0==2 then
  some sf
 else
  some ([]:List UInt8))
def bU:Bb:=mC [] 227 Tryz.f227 .n [.k (.int .i64)] [.k (.str)] (fun x=>Pt x.1) Tryz.func227 (by kernel_rfl)
def oV (am5:Az):Option (Az):=
 some am5
def kT (a0:A6 (Int)) (abC:Int) (aoz:Az):Option ((Int×Az)⊕(Az)):=
 (if decide (abC<5) then
  (idx a0.l (Aa (abC+1))).bind fun e13=>
  (idx a0.l (Aa (abC+1))).bind fun e14=>
  (idx aoz.Color.l abC).bind fun e15=>
  (idx (aoz.Color.l) abC).bind fun e16=>
  some (.inl ((Aa (abC+1)),({aoz with Color:=aoz.Color.set (abC).toNat e14})))
 else
  some (.inr aoz))
def bV (a0:A6 (Int)):Option (Az):=
 (idx a0.l (0:Int)).bind fun e1=>
 (idx a0.l (0:Int)).bind fun e2=>
 jn (fun(v:Az)=>oV v) (fun jJ4=>
 (iter (fun(v:Int×Az)=>kT a0 v.1 v.2) FU ((0:Int),(⟨e2,0,(⟨0,0,0,0,0⟩:A5 (Int))⟩:Az))).bind (fun o0=>jJ4 o0))
def sF:Bb:=mC [] 272 Tryz.f272 (.s .n (.s .n (.j ⟨[2,3],[],[[2]],[([3], .box [.v (.s 99)])]⟩ (.s .n (.l ⟨[1,2,3],[Bd 4],[[1],[2]],[([3], .box [.v (.s 99)])]⟩ [(1,⟨[2,3],[],[[2]],[([3], .box [.v (.s 99)])]⟩)] .n)) .n))) [.s 59] [.s 99] (fun x=>bV x.1) Tryz.func272 (by kernel_rfl)
def bW (a0:AO):Option (Bool):=
 (some (if a0.adu.Types==2 then true else a0.adu.Types==4)).bind fun b1=>
 some b1
def sG:Bb:=mC [] 110 Tryz.f110 .n [.s 102] [.k (.bool)] (fun x=>bW x.1) Tryz.func110 (by kernel_rfl)
def Xy:Option (Int):=
 some (-1:Int)
def IE (a0:List (AO)) (a1:List UInt8) (aal:Int):Option ((Int)⊕(Unit⊕Int)):=
 (if(decide (aal<(a0.length:Int))) then
  (idx a0 aal).bind fun e7=>
  (if e7.Name==a1 then
   some (.inr (.inr aal))
  else
   some (.inl (Aa (aal+1))))
 else
  some (.inr (.inl ())))
def T7 (a0:List (AO)) (a1:List UInt8):Option (Int):=
 jn (fun(v:Unit)=>Xy) (fun jJ1=>
 (iter (fun(v:Int)=>IE a0 a1 v) FU (0:Int)).bind (Sum.elim (fun o0=>jJ1 ()) (fun o1=>some o1)))
def sH:Bb:=mC [] 63 Tryz.f63 (.s .n (.j IT (.s .n (.l ⟨[0,1],[Bd 5],[],[]⟩ [(1,IT),(0,⟨[],[Bd 4],[],[]⟩)] .n)) .n)) [.k (.l_ 102), .k (.str)] [.k (.int .i64)] (fun x=>T7 x.1 x.2.1) Tryz.func63 (by kernel_rfl)
def T8:Option (Bool):=
 some false
def GX (a0:List (AO)) (a1:List UInt8) (aal:Int):Option ((Int)⊕(Unit⊕Bool)):=
 (if(decide (aal<(a0.length:Int))) then
  (idx a0 aal).bind fun e7=>
  (gd ((e7.Name==a1)==true) (idx a0 aal)).bind fun e8=>
  (some (if e7.Name==a1 then e8.Token else false)).bind fun b9=>
  (if b9 then
   some (.inr (.inr true))
  else
   some (.inl (Aa (aal+1))))
 else
  some (.inr (.inl ())))
def Qr (a0:List (AO)) (a1:List UInt8):Option (Bool):=
 jn (fun(v:Unit)=>T8) (fun jJ1=>
 (iter (fun(v:Int)=>GX a0 a1 v) FU (0:Int)).bind (Sum.elim (fun o0=>jJ1 ()) (fun o1=>some o1)))
def oW:Bb:=mC [] 111 Tryz.f111 (.s .n (.j IT (.s .n (.l ⟨[0,1],[Bd 5],[],[]⟩ [(1,IT),(0,⟨[],[ES 4],[],[]⟩)] .n)) .n)) [.k (.l_ 102), .k (.str)] [.k (.bool)] (fun x=>Qr x.1 x.2.1) Tryz.func111 (by kernel_rfl)
def oX (abz:Int) (aaQ:List (Al)) (amX:Int) (akv:Int) (amY:Int) (alN:Bool) (aiQ:Int) (akr:Int) (akt:Int) (aij:Int) (amZ:Int) (am1:Int) (akm:Int):Option (Ai):=
 (k_ (abz=((aaQ.length:Nat):Int))).bind fun _=>
 some (⟨aaQ,([]:List (Am)),([]:List (Int)),([]:List (Int)),([]:List (AK)),([]:List (Ax)),([]:List (Bn)),amX,akv,amY,alN,aiQ,akr,akt,aij,amZ,([]:List (Int)),am1,akm⟩:Ai)
def oY (a0:Int) (a1:Int) (ako:Int) (alQ:Int) (akp:Int) (aji:Bool) (ajM:Int) (aii:Int) (ail:Int) (afN:Int) (akq:Int) (ajh:Int) (ahq:Int) (abz:Int) (aaQ:List (Al)):Option (Ai):=
 jn (fun(v:Int×Int×Int×Bool×Int×Int×Int×Int×Int×Int×Int)=>oX abz aaQ v.1 v.2.1 v.2.2.1 v.2.2.2.1 v.2.2.2.2.1 v.2.2.2.2.2.1 v.2.2.2.2.2.2.1 v.2.2.2.2.2.2.2.1 v.2.2.2.2.2.2.2.2.1 v.2.2.2.2.2.2.2.2.2.1 v.2.2.2.2.2.2.2.2.2.2) (fun anT=>
 (some (if decide (0<=a1) then decide (a1<(if 4<(if a0<2 then(2:Int)else a0)then(4:Int)else(if a0<2 then(2:Int)else a0)))else false)).bind fun b27=>
 (if b27 then
  anT (ako,a1,akp,aji,a1,aii,ail,afN,akq,ajh,ahq)
 else
  anT (ako,alQ,akp,aji,ajM,aii,ail,afN,akq,ajh,ahq)))
def oZ (a0:Int) (al7:Int) (ajd:Int) (aht:Int) (aje:Int) (aim:Bool) (afM:Int) (ahr:Int) (ahs:Int) (ae2:Int) (ajf:Int) (ajg:Int) (ahp:Int) (ac7:Int) (abA:List (Al)):Option ((Int×Int×Int×Int×Bool×Int×Int×Int×Int×Int×Int×Int×Int×(List (Al)))⊕((Int×Int×Int×Bool×Int×Int×Int×Int×Int×Int×Int×Int×(List (Al))))):=
 (if(decide (al7<(if 4<(if a0<2 then(2:Int)else a0)then(4:Int)else(if a0<2 then(2:Int)else a0)))) then
  (k_ (0<([(⟨20,0,0,(⟨0,0,0,0,0,0⟩:A6 (Int)),false,false,([]:List (Int)),([]:List (Int)),([]:List (Int))⟩:Al)]:List (Al)).length)).bind fun u73=>
  (app 152 abA ([(⟨20,0,0,(⟨0,0,0,0,0,0⟩:A6 (Int)),false,false,([]:List (Int)),([]:List (Int)),([]:List (Int))⟩:Al)]:List (Al))).bind fun l74=>
  (k_ (ac7=((abA.length:Nat):Int)/\((([(⟨20,0,0,(⟨0,0,0,0,0,0⟩:A6 (Int)),false,false,([]:List (Int)),([]:List (Int)),([]:List (Int))⟩:Al)]:List (Al)).length :Nat):Int)=((([(⟨20,0,0,(⟨0,0,0,0,0,0⟩:A6 (Int)),false,false,([]:List (Int)),([]:List (Int)),([]:List (Int))⟩:Al)]:List (Al)).length :Nat):Int)/\0<([(⟨20,0,0,(⟨0,0,0,0,0,0⟩:A6 (Int)),false,false,([]:List (Int)),([]:List (Int)),([]:List (Int))⟩:Al)]:List (Al)).length)).bind fun u75=>
  some (.inl ((Aa (al7+1)),ajd,aht,aje,aim,afM,ahr,ahs,ae2,ajf,ajg,ahp,((l74.length:Nat):Int),l74))
 else
  some (.inr (ajd,aht,aje,aim,afM,ahr,ahs,ae2,ajf,ajg,ahp,ac7,abA)))
def kU (a0:Int) (a1:Int) (a2:Int):Option (Ai):=
 jn (fun(v:Int×Int×Int×Bool×Int×Int×Int×Int×Int×Int×Int×Int×(List (Al)))=>oY a0 a1 v.1 v.2.1 v.2.2.1 v.2.2.2.1 v.2.2.2.2.1 v.2.2.2.2.2.1 v.2.2.2.2.2.2.1 v.2.2.2.2.2.2.2.1 v.2.2.2.2.2.2.2.2.1 v.2.2.2.2.2.2.2.2.2.1 v.2.2.2.2.2.2.2.2.2.2.1 v.2.2.2.2.2.2.2.2.2.2.2.1 v.2.2.2.2.2.2.2.2.2.2.2.2) (fun ade=>
 (iter (fun(v:Int×Int×Int×Int×Bool×Int×Int×Int×Int×Int×Int×Int×Int×(List (Al)))=>oZ a0 v.1 v.2.1 v.2.2.1 v.2.2.2.1 v.2.2.2.2.1 v.2.2.2.2.2.1 v.2.2.2.2.2.2.1 v.2.2.2.2.2.2.2.1 v.2.2.2.2.2.2.2.2.1 v.2.2.2.2.2.2.2.2.2.1 v.2.2.2.2.2.2.2.2.2.2.1 v.2.2.2.2.2.2.2.2.2.2.2.1 v.2.2.2.2.2.2.2.2.2.2.2.2.1 v.2.2.2.2.2.2.2.2.2.2.2.2.2) FU ((0:Int),(0:Int),(0:Int),(0:Int),false,(0:Int),(0:Int),(1:Int),(1:Int),a2,(0:Int),(-1:Int),(0:Int),([]:List (Al)))).bind (fun o0=>ade (o0.1,o0.2.1,o0.2.2.1,o0.2.2.2.1,o0.2.2.2.2.1,o0.2.2.2.2.2.1,o0.2.2.2.2.2.2.1,o0.2.2.2.2.2.2.2.1,o0.2.2.2.2.2.2.2.2.1,o0.2.2.2.2.2.2.2.2.2.1,o0.2.2.2.2.2.2.2.2.2.2.1,o0.2.2.2.2.2.2.2.2.2.2.2.1,o0.2.2.2.2.2.2.2.2.2.2.2.2)))
def w7:Bb:=mX [] 26 Tryz.f26 (.s .n (.s .n (.s (.r [] [([8],0,[1000003,1000,8],61),([8],1,[1001,8],70)] .n) (.j ⟨[1,6,7,8],[],[[6],[1001,8]],[([8], .box [.c (.e_ [1000003,1000,8]), .c (.e_ [1001,8]), .c (.s_), .c (.s_), .c (.s_), .c (.s_), .c (.s_),AF,AF,AF,Lk,AF,AF,AF,AF, .v (.k (.int .u64)), .c (.s_),AF,AF]),([1000003,1000,8], .deep 61)]⟩ (.s .n (.l ⟨[1,6,7,8],[Bd 9],[[6],[1001,8]],[([8], .box [.c (.e_ [1000003,1000,8]), .c (.e_ [1001,8]), .c (.s_), .c (.s_), .c (.s_), .c (.s_), .c (.s_),AF,AF,AF,Lk,AF,AF,AF,AF, .v (.k (.int .u64)), .c (.s_),AF,AF]),([1000003,1000,8], .deep 61)]⟩ [(1,⟨[1,6,7,8],[],[[6],[1001,8]],[([8], .box [.c (.e_ [1000003,1000,8]), .c (.e_ [1001,8]), .c (.s_), .c (.s_), .c (.s_), .c (.s_), .c (.s_),AF,AF,AF,Lk,AF,AF,AF,AF, .v (.k (.int .u64)), .c (.s_),AF,AF]),([1000003,1000,8], .deep 61)]⟩)] (.s .n (.s (.r [] [] (.q 3 .mk (.q 4 .ad .n))) .n)))) (.j ⟨[6,8],[],[[6],[1001,8],[1000003,1000,8]],[([8], .box [.c (.e_ [1000003,1000,8]), .c (.e_ [1001,8]), .c (.s_), .c (.s_), .c (.s_), .c (.s_), .c (.s_),AF,AF,AF,Lk,AF,AF,AF,AF, .v (.k (.int .u64)), .c (.s_),AF,AF])]⟩ .n .n))))) [[2,1,0,0,0,0,0,0,0,0,0,0,0,0,0,0,0,0,0]] [.k (.int .i64), .k (.int .i64), .k (.int .u64)] [.s 36] (fun x=>kU x.1 x.2.1 x.2.2.1) Tryz.func26 (by kernel_rfl)
def o4 (a0:Int):Option (Int×Int):=
 some (LH .u64 (IntKind.u64.wrap ((LH .u64 (IntKind.u64.wrap ((LH .u64 (IntKind.u64.wrap (a0+11400714819323198485)) (Int.fdiv (IntKind.u64.wrap (a0+11400714819323198485)) (2 ^ (min ((30:Int)).toNat (IntKind.u64).bits))))*(13787848793156543929:Int))) (Int.fdiv (IntKind.u64.wrap ((LH .u64 (IntKind.u64.wrap (a0+11400714819323198485)) (Int.fdiv (IntKind.u64.wrap (a0+11400714819323198485)) (2 ^ (min ((30:Int)).toNat (IntKind.u64).bits))))*(13787848793156543929:Int))) (2 ^ (min ((27:Int)).toNat (IntKind.u64).bits))))*(10723151780598845931:Int))) (Int.fdiv (IntKind.u64.wrap ((LH .u64 (IntKind.u64.wrap ((LH .u64 (IntKind.u64.wrap (a0+11400714819323198485)) (Int.fdiv (IntKind.u64.wrap (a0+11400714819323198485)) (2 ^ (min ((30:Int)).toNat (IntKind.u64).bits))))*(13787848793156543929:Int))) (Int.fdiv (IntKind.u64.wrap ((LH .u64 (IntKind.u64.wrap (a0+11400714819323198485)) (Int.fdiv (IntKind.u64.wrap (a0+11400714819323198485)) (2 ^ (min ((30:Int)).toNat (IntKind.u64).bits))))*(13787848793156543929:Int))) (2 ^ (min ((27:Int)).toNat (IntKind.u64).bits))))*(10723151780598845931:Int))) (2 ^ (min ((31:Int)).toNat (IntKind.u64).bits))),IntKind.u64.wrap (a0+11400714819323198485))
def sJ:Bb:=mC [] 102 Tryz.f102 .n [.k (.int .u64)] [.k (.int .u64), .k (.int .u64)] (fun x=>o4 x.1) Tryz.func102 (by kernel_rfl)
def uG (a0:Int) (a1:Int) (a2:Int) (a3:Int) (a4:Int):Option (Am):=
 some (⟨a0,a1,a2,a2,a3,false,false,false,false,0,(⟨0,0,0⟩:A3 (Int)),a4,(-1:Int),(-1:Int),false,0,0⟩:Am)
def w8:Bb:=mC [] 28 Tryz.f28 .n [.k (.int .i64), .k (.int .i64), .k (.int .i64), .k (.int .i64), .k (.int .i64)] [.s 70] (fun x=>uG x.1 x.2.1 x.2.2.1 x.2.2.2.1 x.2.2.2.2.1) Tryz.func28 (by kernel_rfl)
def o5:Option (Bool):=
 some true
def Pu (a0:List (Int)) (a1:List (Int)) (aeW:Int):Option ((Int)⊕(Unit⊕Bool)):=
 (if(decide (aeW<(a0.length:Int))) then
  (idx a0 aeW).bind fun e8=>
  (idx a1 aeW).bind fun e9=>
  (if e8 != e9 then
   some (.inr (.inr false))
  else
   some (.inl (Aa (aeW+1))))
 else
  some (.inr (.inl ())))
def GY (a0:List (Int)) (a1:List (Int)):Option (Bool):=
 (if((a0.length:Int) != (a1.length:Int)) then
  some false
 else
  jn (fun(v:Unit)=>o5) (fun H_=>
  (iter (fun(v:Int)=>Pu a0 a1 v) FU (0:Int)).bind (Sum.elim (fun o0=>H_ ()) (fun o1=>some o1))))
def bX:Bb:=mC [] 30 Tryz.f30 (.s .n (.s .n (.j IT (.s .n (.l ⟨[0,1],[Bd 5],[],[]⟩ [(1,IT),(0,⟨[],[ES 4],[],[]⟩)] .n)) .n))) [.k (.l_ 3), .k (.l_ 3)] [.k (.bool)] (fun x=>GY x.1 x.2.1) Tryz.func30 (by kernel_rfl)
end Go.PL
