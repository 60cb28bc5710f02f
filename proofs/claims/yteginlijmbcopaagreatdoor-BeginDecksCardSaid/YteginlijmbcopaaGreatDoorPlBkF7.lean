/- Functions of the program, as partial functions in Lean, with proofs. -/
import Derived.Test.YteginlijmbcopaaGreatDoorPlBkB
import Derived.Test.YteginlijmbcopaaGreatDoorPlBkF0
import Derived.Test.YteginlijmbcopaaGreatDoorPlBkF3
import Derived.Test.YteginlijmbcopaaGreatDoorPlBkF4
import Derived.Test.YteginlijmbcopaaGreatDoorPlBkF6
namespace Go.PL
open Go Go.RowKit Go.Proofs
set_option maxRecDepth 100000
set_option linter.all false
set_option maxHeartbeats 4000000
attribute [local irreducible] Ad Cx Cr
def MD (amw:Bool):Option (Bool):=
 (if amw then
  some false
 else
  some true)
def HX (a0:AA) (a1:AN) (amx:Bool):Option (Bool):=
 (if amx then
  some false
 else
  jn (fun(v:Bool)=>MD v) (fun alU=>
  (gd (a1.alH==true) (Fp a0.abn)).bind fun r27=>
  (some (if a1.alH then r27==([]:List UInt8)else false)).bind fun b28=>
  (if b28 then
   alU b28
  else
   (some (if !a1.alH then decide (0<(a0.abn.length:Int))else false)).bind fun b30=>
   alU b30)))
def HY (a0:AA) (a1:AN) (amy:Bool):Option (Bool):=
 (if amy then
  some false
 else
  jn (fun(v:Bool)=>HX a0 a1 v) (fun as0=>
  (gd ((a1.amJ==true)&&((a0.acj==(⟨0,0,0,0,0,0⟩:A6 (Int)))==false)) (FM a0.acj)).bind fun r31=>
  (some (if(a0.acj==(⟨0,0,0,0,0,0⟩:A6 (Int))) then true else r31==([]:List UInt8))).bind fun b32=>
  (some (if a1.amJ then b32 else false)).bind fun b33=>
  (if b33 then
   as0 b33
  else
   (some (if !a1.amJ then !(a0.acj==(⟨0,0,0,0,0,0⟩:A6 (Int)))else false)).bind fun b35=>
   as0 b35)))
def HZ (a0:AA) (a1:AN) (ada:Int) (anZ:Bool):Option (Bool):=
 (if anZ then
  some false
 else
  jn (fun(v:Bool)=>HY a0 a1 v) (fun afS=>
  (gd (a1.filter==true) (Ct a0.Filter)).bind fun r36=>
  (some (if !r36 then true else a0.Filter.B_ != ada)).bind fun b37=>
  (some (if a1.filter then b37 else false)).bind fun b38=>
  (if b38 then
   afS b38
  else
   (some (if !a1.filter then !(a0.Filter==(⟨0,0,0,0,0,0,0,[],0,0,(⟨0,0⟩:Aj),(⟨0,0⟩:Aj),(⟨0,0⟩:Aj)⟩:Aq))else false)).bind fun b40=>
   afS b40)))
def H5 (a0:AA) (a1:AN) (ada:Int) (an1:Bool):Option (Bool):=
 (if an1 then
  some false
 else
  jn (fun(v:Bool)=>HZ a0 a1 ada v) (fun aiJ=>
  (gd (a1.aiU==true) (Pq a0.Ti)).bind fun r41=>
  (some (if a1.aiU then !r41 else false)).bind fun b42=>
  (if b42 then
   aiJ b42
  else
   (some (if !a1.aiU then a0.Ti != ([]:List UInt8)else false)).bind fun b44=>
   aiJ b44)))
def H6 (a0:AA) (a1:AN) (ada:Int) (ap9:Bool):Option (Bool):=
 (if ap9 then
  some false
 else
  jn (fun(v:Bool)=>H5 a0 a1 ada v) (fun aex=>
  (some (if decide (a0.B_<0) then true else decide (4<a0.B_))).bind fun b45=>
  (some (if a1.anW then b45 else false)).bind fun b46=>
  (if b46 then
   aex b46
  else
   (some (if !a1.anW then a0.B_ != 0 else false)).bind fun b48=>
   aex b48)))
def I9 (a0:AA) (a1:AN) (ada:Int) (ap_:Bool):Option (Bool):=
 (if ap_ then
  some false
 else
  jn (fun(v:Bool)=>H6 a0 a1 ada v) (fun ahc=>
  (gd (a1.counter==true) (Fg a0.Tl)).bind fun r49=>
  (some (if a1.counter then r49==([]:List UInt8)else false)).bind fun b50=>
  (if b50 then
   ahc b50
  else
   (some (if !a1.counter then a0.Tl != 0 else false)).bind fun b52=>
   ahc b52)))
def Ja (a0:AA) (a1:AN) (ada:Int) (aqd:Bool):Option (Bool):=
 (if aqd then
  some false
 else
  jn (fun(v:Bool)=>I9 a0 a1 ada v) (fun jJ7=>
  (gd (a1.af7==true) (HV a0.aem)).bind fun r53=>
  (some (if a1.af7 then !r53 else false)).bind fun b54=>
  (if b54 then
   jJ7 b54
  else
   (some (if !a1.af7 then !(a0.aem==(⟨0,0,0,(⟨0,0,0,0,0,0,0,[],0,0,(⟨0,0⟩:Aj),(⟨0,0⟩:Aj),(⟨0,0⟩:Aj)⟩:Aq)⟩:BC))else false)).bind fun b56=>
   jJ7 b56)))
def Jb (a0:AA) (a1:AN) (a2:Int) (ada:Int):Option (Bool):=
 jn (fun(v:Bool)=>Ja a0 a1 ada v) (fun jJ4=>
 (gd (a1.ref==true) (Uq a0.Ref a2)).bind fun r57=>
 (some (if a1.ref then !r57 else false)).bind fun b58=>
 (if b58 then
  jJ4 b58
 else
  (some (if !a1.ref then !(a0.Ref==(⟨0,0,(⟨0,0,0,0,0,0,0,[],0,0,(⟨0,0⟩:Aj),(⟨0,0⟩:Aj),(⟨0,0⟩:Aj)⟩:Aq)⟩:Mm))else false)).bind fun b60=>
  jJ4 b60))
def Jx (a0:AA) (a1:AN) (a2:Int):Option (Bool):=
 jn (fun(v:Int)=>Jb a0 a1 a2 v) (fun jJ2=>
 (if a0.Op==21 then
  jJ2 (2:Int)
 else
  jJ2 (0:Int)))
def Zt:Cj:=mC [ww,lr,KE,T5,Di,V3,OT] 260 Tryz.f260 (.s .n (.s .n (.j ⟨[2,3,4],[BS 7],[[3],[4]],[]⟩ .n (.s (.j ⟨[3,4,7],[JL 11],[[3],[4]],[]⟩ .n (.i .n (.j ⟨[3,4,7],[JL 30],[[3],[4]],[]⟩ .n (.i .n (.j ⟨[3,4,7],[JL 48],[[3],[4]],[]⟩ .n (.i .n (.j ⟨[3,4,7],[JL 65],[[3],[4]],[]⟩ .n (.i .n (.j ⟨[3,4,7],[JL 86],[[3],[4]],[]⟩ .n (.i .n (.j ⟨[3,4],[JL 103],[[3],[4]],[]⟩ .n (.i .n (.j ⟨[3,4],[JL 128],[[3],[4]],[]⟩ .n (.i .n (.j ⟨[],[JL 152],[],[]⟩ .n .n))))))))))))))) .n)))) [.s 180, .s 253, .k (.int .i64)] [.k (.bool)] (fun x=>Jx x.1 x.2.1 x.2.2.1) Tryz.func260 (by kernel_rfl)
end Go.PL
