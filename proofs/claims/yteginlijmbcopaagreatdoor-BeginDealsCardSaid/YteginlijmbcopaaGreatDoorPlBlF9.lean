/- Functions of the program, as partial functions in Lean, with proofs. -/
import Derived.Test.YteginlijmbcopaaGreatDoorPlBlB
import Derived.Test.YteginlijmbcopaaGreatDoorPlBlF0
import Derived.Test.YteginlijmbcopaaGreatDoorPlBlF2
import Derived.Test.YteginlijmbcopaaGreatDoorPlBlF4
import Derived.Test.YteginlijmbcopaaGreatDoorPlBlF5
import Derived.Test.YteginlijmbcopaaGreatDoorPlBlF8
namespace Go.PL
open Go Go.RowKit Go.Proofs
set_option maxRecDepth 100000
set_option linter.all false
set_option maxHeartbeats 4000000
attribute [local irreducible] Aq Cr Cc
def aJ (aeJ:Bool) (b8:Bool) (b12:Bool) (aec:Bool) (agj:Bool) (agI:Bool) (al2:Bool) (asM:Bool):Option (Bool):=
 (some (if aeJ then b8 else false)).bind fun b23=>
 (some (if b23 then b12 else false)).bind fun b24=>
 (some (if b24 then aec else false)).bind fun b25=>
 (some (if b25 then agj else false)).bind fun b26=>
 (some (if b26 then agI else false)).bind fun b27=>
 (some (if b27 then al2 else false)).bind fun b28=>
 (some (if b28 then asM else false)).bind fun b29=>
 some b29
def aK (a0:AF) (aeJ:Bool) (b8:Bool) (b12:Bool) (aec:Bool) (agj:Bool) (agI:Bool) (al2:Bool):Option (Bool):=
 jn (fun(v:Bool)=>aJ aeJ b8 b12 aec agj agI al2 v) (fun ayt=>
 (DM a0.Op (102:Int)).bind fun r30=>
 (if r30 then
  (QX a0.Op a0.Filter).bind fun r32=>
  ayt r32
 else
  ayt (a0.Filter==(⟨0,0,0,0,0,0,0,[],0,0,(⟨0,0⟩:As),(⟨0,0⟩:As),(⟨0,0⟩:As)⟩:Av))))
def aL (a0:AF) (aeJ:Bool) (b8:Bool) (b12:Bool) (aec:Bool) (agj:Bool) (agI:Bool):Option (Bool):=
 jn (fun(v:Bool)=>aK a0 aeJ b8 b12 aec agj agI v) (fun aiH=>
 (DM a0.Op (112:Int)).bind fun r33=>
 (if r33 then
  (gd ((!(a0.ab7==(⟨0,0,0,0,0,0⟩:A6 (Int))))==true) (IR a0.ab7)).bind fun r35=>
  (some (if(!(a0.ab7==(⟨0,0,0,0,0,0⟩:A6 (Int)))) then r35 != ([]:List UInt8)else false)).bind fun b36=>
  aiH b36
 else
  aiH (a0.ab7==(⟨0,0,0,0,0,0⟩:A6 (Int)))))
def aM (a0:AF) (aeJ:Bool) (b8:Bool) (b12:Bool) (aec:Bool) (agj:Bool):Option (Bool):=
 jn (fun(v:Bool)=>aL a0 aeJ b8 b12 aec agj v) (fun akH=>
 (DM a0.Op (109:Int)).bind fun r37=>
 (if r37 then
  (aI a0.aai).bind fun r39=>
  akH r39
 else
  akH ((a0.aai.length:Int)==0)))
def aO (a0:AF) (aeJ:Bool) (b8:Bool) (b12:Bool) (aec:Bool):Option (Bool):=
 jn (fun(v:Bool)=>aM a0 aeJ b8 b12 aec v) (fun agU=>
 (DM a0.Op (97:Int)).bind fun r40=>
 (if r40 then
  (jR a0.adD).bind fun r42=>
  agU r42
 else
  agU (a0.adD==(⟨0,0,0,(⟨0,0,0,0,0,0,0,[],0,0,(⟨0,0⟩:As),(⟨0,0⟩:As),(⟨0,0⟩:As)⟩:Av)⟩:CR))))
def fR (a0:AF) (aeJ:Bool):Option (Bool):=
 (gd ((a0.O_==0)==false) (DM a0.Op (122:Int))).bind fun r5=>
 (some (if r5 then decide (0<a0.O_)else false)).bind fun b6=>
 (some (if b6 then decide (a0.O_<=4)else false)).bind fun b7=>
 (some (if a0.O_==0 then true else b7)).bind fun b8=>
 (gd ((a0.R_==0)==false) (DM a0.Op (107:Int))).bind fun r9=>
 (gd (((a0.R_==0)==false)&&(r9==true)) (Oh a0.R_)).bind fun r10=>
 (some (if r9 then r10 != ([]:List UInt8)else false)).bind fun b11=>
 (some (if a0.R_==0 then true else b11)).bind fun b12=>
 jn (fun(v:Bool)=>aO a0 aeJ b8 b12 v) (fun aiI=>
 (DM a0.Op (99:Int)).bind fun r43=>
 (if r43 then
  (Uz a0.aag).bind fun r45=>
  aiI r45
 else
  aiI (a0.aag==([]:List UInt8))))
def UL (a0:AF) (a1:Int):Option (Bool):=
 (Oe a0.Op).bind fun r1=>
 (if(r1==([]:List UInt8)) then
  some false
 else
  jn (fun(v:Bool)=>fR a0 v) (fun jJ4=>
  (DM a0.Op (114:Int)).bind fun r46=>
  (if r46 then
   (jQ a0.Ref a1).bind fun r48=>
   jJ4 r48
  else
   jJ4 (a0.Ref==(⟨0,0,(⟨0,0,0,0,0,0,0,[],0,0,(⟨0,0⟩:As),(⟨0,0⟩:As),(⟨0,0⟩:As)⟩:Av)⟩:Px)))))
def yN:A9:=mC [qQ,rf,yK,ZB,ZR,yL,rA,ah,jS] 192 Tryz.f192 (.s .n (.s .n (.s .n (.j ⟨[2],[EO 5],[[2]],[]⟩ .n (.s .n (.s .n (.s .n (.j ⟨[2,5,6,7],[EO 8],[[2]],[]⟩ .n (.s .n (.j ⟨[2,5,6,7,8],[EO 9],[[2]],[]⟩ .n (.s .n (.j ⟨[2,5,6,7,8,9],[EO 10],[[2]],[]⟩ .n (.s .n (.j ⟨[2,5,6,7,8,9,10],[EO 11],[[2]],[]⟩ .n (.s .n (.j ⟨[5,6,7,8,9,10,11],[EO 12],[],[]⟩ .n .n)))))))))))))))) [.s 180, .k (.int .i64)] [.k (.bool)] (fun x=>UL x.1 x.2.1) Tryz.func192 (by kernel_rfl)
end Go.PL
