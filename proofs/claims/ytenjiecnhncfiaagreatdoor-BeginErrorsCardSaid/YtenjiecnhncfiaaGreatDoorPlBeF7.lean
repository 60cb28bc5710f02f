/- Functions of the program, as partial functions in Lean, with proofs. -/
import Derived.Test.YtenjiecnhncfiaaGreatDoorPlBeB
import Derived.Test.YtenjiecnhncfiaaGreatDoorPlBeF0
import Derived.Test.YtenjiecnhncfiaaGreatDoorPlBeF1
import Derived.Test.YtenjiecnhncfiaaGreatDoorPlBeF3
import Derived.Test.YtenjiecnhncfiaaGreatDoorPlBeF4
import Derived.Test.YtenjiecnhncfiaaGreatDoorPlBeF5
import Derived.Test.YtenjiecnhncfiaaGreatDoorPlBeF6
namespace Go.PL
open Go Go.RowKit Go.Proofs
set_option maxRecDepth 100000
set_option linter.all false
set_option maxHeartbeats 4000000
attribute [local irreducible] Ag Cv Co
def Mz (amp:Bool):Option (Bool):=
 (if amp then
  some false
 else
  some true)
def HF (a0:Av) (a1:AL) (amq:Bool):Option (Bool):=
 (if amq then
  some false
 else
  jn (fun(v:Bool)=>Mz v) (fun amR=>
  (gd (a1.aio==true) (E4 a0.Tg)).bind fun r27=>
  (some (if a1.aio then r27==([]:List UInt8)else false)).bind fun b28=>
  (if b28 then
   amR b28
  else
   (some (if !a1.aio then decide (0<(a0.Tg.length:Int))else false)).bind fun b30=>
   amR b30)))
def HG (a0:Av) (a1:AL) (ams:Bool):Option (Bool):=
 (if ams then
  some false
 else
  jn (fun(v:Bool)=>HF a0 a1 v) (fun amS=>
  (gd ((a1.ain==true)&&((a0.abe==(⟨0,0,0,0,0,0⟩:A6 (Int)))==false)) (Fv a0.abe)).bind fun r31=>
  (some (if(a0.abe==(⟨0,0,0,0,0,0⟩:A6 (Int))) then true else r31==([]:List UInt8))).bind fun b32=>
  (some (if a1.ain then b32 else false)).bind fun b33=>
  (if b33 then
   amS b33
  else
   (some (if !a1.ain then !(a0.abe==(⟨0,0,0,0,0,0⟩:A6 (Int)))else false)).bind fun b35=>
   amS b35)))
def HH (a0:Av) (a1:AL) (ac3:Int) (anQ:Bool):Option (Bool):=
 (if anQ then
  some false
 else
  jn (fun(v:Bool)=>HG a0 a1 v) (fun adV=>
  (gd (a1.filter==true) (BX a0.Filter)).bind fun r36=>
  (some (if !r36 then true else a0.Filter.q_ != ac3)).bind fun b37=>
  (some (if a1.filter then b37 else false)).bind fun b38=>
  (if b38 then
   adV b38
  else
   (some (if !a1.filter then !(a0.Filter==(⟨0,0,0,0,0,0,0,[],0,0,(⟨0,0⟩:Af),(⟨0,0⟩:Af),(⟨0,0⟩:Af)⟩:Aj))else false)).bind fun b40=>
   adV b40)))
def HI (a0:Av) (a1:AL) (ac3:Int) (anS:Bool):Option (Bool):=
 (if anS then
  some false
 else
  jn (fun(v:Bool)=>HH a0 a1 ac3 v) (fun adW=>
  (gd (a1.ahb==true) (Qa a0.ab1)).bind fun r41=>
  (some (if a1.ahb then !r41 else false)).bind fun b42=>
  (if b42 then
   adW b42
  else
   (some (if !a1.ahb then a0.ab1 != ([]:List UInt8)else false)).bind fun b44=>
   adW b44)))
def HJ (a0:Av) (a1:AL) (ac3:Int) (ap0:Bool):Option (Bool):=
 (if ap0 then
  some false
 else
  jn (fun(v:Bool)=>HI a0 a1 ac3 v) (fun aez=>
  (some (if decide (a0.q_<0) then true else decide (4<a0.q_))).bind fun b45=>
  (some (if a1.ahr then b45 else false)).bind fun b46=>
  (if b46 then
   aez b46
  else
   (some (if !a1.ahr then a0.q_ != 0 else false)).bind fun b48=>
   aez b48)))
def IS (a0:Av) (a1:AL) (ac3:Int) (ap2:Bool):Option (Bool):=
 (if ap2 then
  some false
 else
  jn (fun(v:Bool)=>HJ a0 a1 ac3 v) (fun adX=>
  (gd (a1.counter==true) (EO a0.o_)).bind fun r49=>
  (some (if a1.counter then r49==([]:List UInt8)else false)).bind fun b50=>
  (if b50 then
   adX b50
  else
   (some (if !a1.counter then a0.o_ != 0 else false)).bind fun b52=>
   adX b52)))
def IT (a0:Av) (a1:AL) (ac3:Int) (ap_:Bool):Option (Bool):=
 (if ap_ then
  some false
 else
  jn (fun(v:Bool)=>IS a0 a1 ac3 v) (fun jJ7=>
  (gd (a1.acY==true) (D1 a0.M_)).bind fun r53=>
  (some (if a1.acY then !r53 else false)).bind fun b54=>
  (if b54 then
   jJ7 b54
  else
   (some (if !a1.acY then !(a0.M_==(⟨0,0,0,(⟨0,0,0,0,0,0,0,[],0,0,(⟨0,0⟩:Af),(⟨0,0⟩:Af),(⟨0,0⟩:Af)⟩:Aj)⟩:AY))else false)).bind fun b56=>
   jJ7 b56)))
def IU (a0:Av) (a1:AL) (a2:Int) (ac3:Int):Option (Bool):=
 jn (fun(v:Bool)=>IT a0 a1 ac3 v) (fun jJ4=>
 (gd (a1.ref==true) (KG a0.Ref a2)).bind fun r57=>
 (some (if a1.ref then !r57 else false)).bind fun b58=>
 (if b58 then
  jJ4 b58
 else
  (some (if !a1.ref then !(a0.Ref==(⟨0,0,(⟨0,0,0,0,0,0,0,[],0,0,(⟨0,0⟩:Af),(⟨0,0⟩:Af),(⟨0,0⟩:Af)⟩:Aj)⟩:Ht))else false)).bind fun b60=>
  jJ4 b60))
def Jl (a0:Av) (a1:AL) (a2:Int):Option (Bool):=
 jn (fun(v:Int)=>IU a0 a1 a2 v) (fun K_=>
 (if a0.Op==21 then
  K_ (2:Int)
 else
  K_ (0:Int)))
def cI:CE TE Tryz.prog I0:=AA [yg,nH,Kw,Vx,De,XO,Py] Aa Ac 9 189 Tryz.f189 (Tryz.f189.body.getD .skip) (.s .n (.s .n (.j ⟨[2,3,4],[(7, .c (.v (.k (.int .i64))))],[[3],[4]],[]⟩ .n (.s (.j ⟨[3,4,7],[(11, .c (.v (.k (.bool))))],[[3],[4]],[]⟩ .n (.i .n (.j ⟨[3,4,7],[(30, .c (.v (.k (.bool))))],[[3],[4]],[]⟩ .n (.i .n (.j ⟨[3,4,7],[(48, .c (.v (.k (.bool))))],[[3],[4]],[]⟩ .n (.i .n (.j ⟨[3,4,7],[(65, .c (.v (.k (.bool))))],[[3],[4]],[]⟩ .n (.i .n (.j ⟨[3,4,7],[(86, .c (.v (.k (.bool))))],[[3],[4]],[]⟩ .n (.i .n (.j ⟨[3,4],[(103, .c (.v (.k (.bool))))],[[3],[4]],[]⟩ .n (.i .n (.j ⟨[3,4],[(128, .c (.v (.k (.bool))))],[[3],[4]],[]⟩ .n (.i .n (.j ⟨[],[(152, .c (.v (.k (.bool))))],[],[]⟩ .n .n))))))))))))))) .n)))) [.s 126, .s 223, .k (.int .i64)] [.k (.bool)] (fun x=>Jl x.1 x.2.1 x.2.2.1) Tryz.func189 rfl (by kernel_rfl)
def Oi (amC:List UInt8):Option ((List UInt8)):=
 some amC
def HK (a0:List (A1)) (abm:Int) (alr:List UInt8):Option (((List UInt8)×Int)⊕((List UInt8)⊕(List UInt8))):=
 (idx a0 abm).bind fun e18=>
 (Ul e18).bind fun r19=>
 (cat alr r19).bind fun s20=>
 some (.inl (s20,(Ad (abm+1))))
def MA (a0:List (A1)) (agP:List UInt8) (abm:Int):Option (((List UInt8)×Int)⊕((List UInt8)⊕(List UInt8))):=
 (if(decide (abm<(a0.length:Int))) then
  (idx a0 abm).bind fun e13=>
  (Px e13).bind fun r14=>
  (if !r14 then
   some (.inr (.inr ([]:List UInt8)))
  else
   jn (fun(v:(List UInt8))=>HK a0 abm v) (fun alH=>
   (if decide (0<abm) then
    (cat agP Dt).bind fun s22=>
    alH s22
   else
    alH agP)))
 else
  some (.inr (.inl agP)))
def E6 (a0:List (A1)):Option ((List UInt8)):=
 (some (if((a0.length:Int)==0) then true else decide (6<(a0.length:Int)))).bind fun b1=>
 (if b1 then
  some ([]:List UInt8)
 else
  jn (fun(v:(List UInt8))=>Oi v) (fun jJ4=>
  (iter (fun(v:(List UInt8)×Int)=>MA a0 v.1 v.2) FU (([]:List UInt8),(0:Int))).bind (Sum.elim (fun o0=>jJ4 o0) (fun o1=>some o1))))
def Pz:CE TE Tryz.prog I0:=AA [nL,ri] Aa Ac 9 80 Tryz.f80 (Tryz.f80.body.getD .skip) (.s .n (.s .n (.s .n (.j ⟨[],[(3, .c (.v (.k (.str))))],[],[]⟩ (.s .n (.l ⟨[0],[(3, .c (.v (.k (.str)))),(4, .c (.v (.k (.int .i64))))],[],[]⟩ [(1,⟨[],[(3, .c (.v (.k (.str))))],[],[]⟩),(0,⟨[],[(2, .c (.v (.k (.str))))],[],[]⟩)] (.s .n (.s (.s .n (.j ⟨[0,4],[(3, .c (.v (.k (.str))))],[],[]⟩ .n .n)) .n)))) .n)))) [.k (.u_ 140)] [.k (.str)] (fun x=>E6 x.1) Tryz.func80 rfl (by kernel_rfl)
def NN (a0:Au) (b6:Bool) (amr:Bool):Option (Bool):=
 (if amr then
  (some (if b6 then decide (0<=a0.Who)else false)).bind fun b29=>
  (some (if b29 then decide (a0.Who<=2)else false)).bind fun b30=>
  (some (if b30 then a0.Filter==(⟨0,0,0,0,0,0,0,[],0,0,(⟨0,0⟩:Af),(⟨0,0⟩:Af),(⟨0,0⟩:Af)⟩:Aj)else false)).bind fun b31=>
  some b31
 else
  some false)
def RP (a0:Au):Option (Bool):=
 (if a0.On==2 then
  (Qh a0).bind fun r2=>
  some r2
 else
  (Jz a0).bind fun r3=>
  (if !r3 then
   some false
  else
   (some (if a0.Do==3 then true else a0.Do==4)).bind fun b5=>
   (some (if b5 then true else a0.Do==8)).bind fun b6=>
   (if a0.On==1 then
    (some (if a0.Do != 1 then a0.Do != 2 else false)).bind fun b8=>
    (some (if b8 then a0.Do != 3 else false)).bind fun b9=>
    (some (if b9 then a0.Do != 4 else false)).bind fun b10=>
    (if b10 then
     some false
    else
     (gd ((a0.Who==0)==true) (JB a0.Filter)).bind fun r12=>
     (some (if a0.Who==0 then r12 else false)).bind fun b13=>
     (some (if a0.Who==1 then true else a0.Who==2)).bind fun b14=>
     (some (if b14 then a0.Filter==(⟨0,0,0,0,0,0,0,[],0,0,(⟨0,0⟩:Af),(⟨0,0⟩:Af),(⟨0,0⟩:Af)⟩:Aj)else false)).bind fun b15=>
     (some (if b13 then true else b15)).bind fun b16=>
     some b16)
   else
    (if a0.On==8 then
     (some (if b6 then a0.Who==0 else false)).bind fun b18=>
     (gd (b18==true) (JB a0.Filter)).bind fun r19=>
     (some (if b18 then r19 else false)).bind fun b20=>
     some b20
    else
     (if a0.On==3 then
      (some (if a0.Do==4 then true else a0.Do==8)).bind fun b22=>
      (some (if b22 then decide (0<=a0.Who)else false)).bind fun b23=>
      (some (if b23 then decide (a0.Who<=2)else false)).bind fun b24=>
      (some (if b24 then a0.Filter==(⟨0,0,0,0,0,0,0,[],0,0,(⟨0,0⟩:Af),(⟨0,0⟩:Af),(⟨0,0⟩:Af)⟩:Aj)else false)).bind fun b25=>
      some b25
     else
      jn (fun(v:Bool)=>NN a0 b6 v) (fun amQ=>
      (if a0.On==4 then
       amQ (a0.On==4)
      else
       (if a0.On==5 then
        amQ (a0.On==5)
       else
        amQ (a0.On==10)))))))))
def yl:CE TE Tryz.prog I0:=AA [nM,nj,Xn] Aa Ac 9 83 Tryz.f83 (Tryz.f83.body.getD .skip) (.s .n (.s .n (.s .n (.s .n (.s .n (.s (.s .n (.s .n (.i .n (.s .n (.i .n (.s .n (.i .n (.j ⟨[1,3,4],[(109, .c (.v (.k (.bool))))],[[1]],[]⟩ .n .n)))))))) .n)))))) [.s 102] [.k (.bool)] (fun x=>RP x.1) Tryz.func83 rfl (by kernel_rfl)
end Go.PL
