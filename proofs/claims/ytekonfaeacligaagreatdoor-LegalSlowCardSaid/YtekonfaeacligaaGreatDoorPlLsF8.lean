/- Functions of the program, as partial functions in Lean, with proofs. -/
import Derived.Test.YtekonfaeacligaaGreatDoorPlLsB
import Derived.Test.YtekonfaeacligaaGreatDoorPlLsF0
import Derived.Test.YtekonfaeacligaaGreatDoorPlLsF1
import Derived.Test.YtekonfaeacligaaGreatDoorPlLsF3
import Derived.Test.YtekonfaeacligaaGreatDoorPlLsF4
import Derived.Test.YtekonfaeacligaaGreatDoorPlLsF7
namespace Go.PL
open Go Go.RowKit Go.Proofs
set_option maxRecDepth 100000
set_option linter.all false
set_option maxHeartbeats 4000000
attribute [local irreducible] Ak BW BI
def Ws (abG:Bool) (b8:Bool) (b12:Bool) (abq:Bool) (acg:Bool) (acw:Bool) (aeo:Bool) (ahC:Bool):Option (Bool):=
 (some (if abG then b8 else false)).bind fun b23=>
 (some (if b23 then b12 else false)).bind fun b24=>
 (some (if b24 then abq else false)).bind fun b25=>
 (some (if b25 then acg else false)).bind fun b26=>
 (some (if b26 then acw else false)).bind fun b27=>
 (some (if b27 then aeo else false)).bind fun b28=>
 (some (if b28 then ahC else false)).bind fun b29=>
 some b29
def Wt (a0:AI) (abG:Bool) (b8:Bool) (b12:Bool) (abq:Bool) (acg:Bool) (acw:Bool) (aeo:Bool):Option (Bool):=
 jn (fun(v:Bool)=>Ws abG b8 b12 abq acg acw aeo v) (fun alb=>
 (CQ a0.Op (102:Int)).bind fun r30=>
 (if r30 then
  (NM a0.Op a0.Filter).bind fun r32=>
  alb r32
 else
  alb (a0.Filter==(⟨0,0,0,0,0,0,0,[],0,0,(⟨0,0⟩:Ag),(⟨0,0⟩:Ag),(⟨0,0⟩:Ag)⟩:Am))))
def Wu (a0:AI) (abG:Bool) (b8:Bool) (b12:Bool) (abq:Bool) (acg:Bool) (acw:Bool):Option (Bool):=
 jn (fun(v:Bool)=>Wt a0 abG b8 b12 abq acg acw v) (fun alc=>
 (CQ a0.Op (112:Int)).bind fun r33=>
 (if r33 then
  (gd ((!(a0.aa_==(⟨0,0,0,0,0,0⟩:A6 (Int))))==true) (Gq a0.aa_)).bind fun r35=>
  (some (if(!(a0.aa_==(⟨0,0,0,0,0,0⟩:A6 (Int)))) then r35 != ([]:List UInt8)else false)).bind fun b36=>
  alc b36
 else
  alc (a0.aa_==(⟨0,0,0,0,0,0⟩:A6 (Int)))))
def Wv (a0:AI) (abG:Bool) (b8:Bool) (b12:Bool) (abq:Bool) (acg:Bool):Option (Bool):=
 jn (fun(v:Bool)=>Wu a0 abG b8 b12 abq acg v) (fun afk=>
 (CQ a0.Op (109:Int)).bind fun r37=>
 (if r37 then
  (Wr a0.N_).bind fun r39=>
  afk r39
 else
  afk ((a0.N_.length:Int)==0)))
def Ww (a0:AI) (abG:Bool) (b8:Bool) (b12:Bool) (abq:Bool):Option (Bool):=
 jn (fun(v:Bool)=>Wv a0 abG b8 b12 abq v) (fun afl=>
 (CQ a0.Op (97:Int)).bind fun r40=>
 (if r40 then
  (bH a0.abj).bind fun r42=>
  afl r42
 else
  afl (a0.abj==(⟨0,0,0,(⟨0,0,0,0,0,0,0,[],0,0,(⟨0,0⟩:Ag),(⟨0,0⟩:Ag),(⟨0,0⟩:Ag)⟩:Am)⟩:B9))))
def Zb (a0:AI) (abG:Bool):Option (Bool):=
 (gd ((a0.F_==0)==false) (CQ a0.Op (122:Int))).bind fun r5=>
 (some (if r5 then decide (0<a0.F_)else false)).bind fun b6=>
 (some (if b6 then decide (a0.F_<=4)else false)).bind fun b7=>
 (some (if a0.F_==0 then true else b7)).bind fun b8=>
 (gd ((a0.q_==0)==false) (CQ a0.Op (107:Int))).bind fun r9=>
 (gd (((a0.q_==0)==false)&&(r9==true)) (LC a0.q_)).bind fun r10=>
 (some (if r9 then r10 != ([]:List UInt8)else false)).bind fun b11=>
 (some (if a0.q_==0 then true else b11)).bind fun b12=>
 jn (fun(v:Bool)=>Ww a0 abG b8 b12 v) (fun afm=>
 (CQ a0.Op (99:Int)).bind fun r43=>
 (if r43 then
  (QI a0.abF).bind fun r45=>
  afm r45
 else
  afm (a0.abF==([]:List UInt8))))
def QK (a0:AI) (a1:Int):Option (Bool):=
 (Ly a0.Op).bind fun r1=>
 (if(r1==([]:List UInt8)) then
  some false
 else
  jn (fun(v:Bool)=>Zb a0 v) (fun jJ4=>
  (CQ a0.Op (114:Int)).bind fun r46=>
  (if r46 then
   (bG a0.Ref a1).bind fun r48=>
   jJ4 r48
  else
   jJ4 (a0.Ref==(⟨0,0,(⟨0,0,0,0,0,0,0,[],0,0,(⟨0,0⟩:Ag),(⟨0,0⟩:Ag),(⟨0,0⟩:Ag)⟩:Am)⟩:ME)))))
def tP:BH:=mC [kE,kO,tM,V9,Wf,tN,kZ,Wo,bI] 111 Tryz.f111 (.s .n (.s .n (.s .n (.j ⟨[2],[GE 5],[[2]],[]⟩ .n (.s .n (.s .n (.s .n (.j ⟨[2,5,6,7],[GE 8],[[2]],[]⟩ .n (.s .n (.j ⟨[2,5,6,7,8],[GE 9],[[2]],[]⟩ .n (.s .n (.j ⟨[2,5,6,7,8,9],[GE 10],[[2]],[]⟩ .n (.s .n (.j ⟨[2,5,6,7,8,9,10],[GE 11],[[2]],[]⟩ .n (.s .n (.j ⟨[5,6,7,8,9,10,11],[GE 12],[],[]⟩ .n .n)))))))))))))))) [.s 112, .k (.int .i64)] [.k (.bool)] (fun x=>QK x.1 x.2.1) Tryz.func111 (by kernel_rfl)
end Go.PL
