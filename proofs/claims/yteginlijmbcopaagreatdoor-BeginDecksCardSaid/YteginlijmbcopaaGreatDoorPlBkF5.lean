/- Functions of the program, as partial functions in Lean, with proofs. -/
import Derived.Test.YteginlijmbcopaaGreatDoorPlBkB
import Derived.Test.YteginlijmbcopaaGreatDoorPlBkF0
import Derived.Test.YteginlijmbcopaaGreatDoorPlBkF1
import Derived.Test.YteginlijmbcopaaGreatDoorPlBkF2
import Derived.Test.YteginlijmbcopaaGreatDoorPlBkF3
import Derived.Test.YteginlijmbcopaaGreatDoorPlBkF4
namespace Go.PL
open Go Go.RowKit Go.Proofs
set_option maxRecDepth 100000
set_option linter.all false
set_option maxHeartbeats 4000000
attribute [local irreducible] Ad Cx Cr
def Sy (a0:B4):Option ((List UInt8)):=
 (LR a0).bind fun r1=>
 (if !r1 then
  some ([]:List UInt8)
 else if a0.Kind==1 then
  some kF
 else if a0.Kind==2 then
  (CC a0.N).bind fun r5=>
  (cat YH r5).bind fun s6=>
  some s6
 else if a0.Kind==3 then
  (CC a0.N).bind fun r8=>
  (cat Vr r8).bind fun s9=>
  some s9
 else if a0.Kind==4 then
  (cat kG a0.Sub).bind fun s11=>
  some s11
 else if a0.Kind==5 then
  (cat dG a0.Sub).bind fun s13=>
  some s13
 else if a0.Kind==6 then
  (ES a0.N).bind fun r15=>
  (cat Vs r15).bind fun s16=>
  some s16
 else if a0.Kind==7 then
  (ES a0.N).bind fun r18=>
  (cat RZ r18).bind fun s19=>
  some s19
 else if a0.Kind==8 then
  (G9 a0.N).bind fun r21=>
  (cat YO r21).bind fun s22=>
  some s22
 else if a0.Kind==9 then
  (G9 a0.N).bind fun r24=>
  (cat Lg r24).bind fun s25=>
  some s25
 else if a0.Kind==10 then
  some sK
 else if a0.Kind==11 then
  (IL a0.Filter).bind fun r28=>
  (cat PT r28).bind fun s29=>
  (cat s29 qm).bind fun s30=>
  some s30
 else if a0.Kind==12 then
  (Dg a0.N).bind fun r32=>
  (cat qn r32).bind fun s33=>
  (cat s33 WE).bind fun s34=>
  (Dg a0.M).bind fun r35=>
  (cat s34 r35).bind fun s36=>
  some s36
 else if a0.Kind==13 then
  (Dg a0.N).bind fun r38=>
  (cat kI r38).bind fun s39=>
  (cat s39 WE).bind fun s40=>
  (Dg a0.M).bind fun r41=>
  (cat s40 r41).bind fun s42=>
  some s42
 else
  some al)
def oO:Cj:=mC [lq,Mz,ai_,Zd,PY,Na] 253 Tryz.f253 .n [.s 148] [.k (.str)] (fun x=>Sy x.1) Tryz.func253 (by kernel_rfl)
def Fo (a0:Ft):Option ((List UInt8)):=
 (if !a0.Object then
  (some (if !a0.acq then true else !(a0.Filter==(⟨0,0,0,0,0,0,0,[],0,0,(⟨0,0⟩:Aj),(⟨0,0⟩:Aj),(⟨0,0⟩:Aj)⟩:Aq)))).bind fun b2=>
  (if b2 then
   some ([]:List UInt8)
  else
   some fW)
 else
  (Ct a0.Filter).bind fun r4=>
  (some (if a0.Filter.B_ != 0 then a0.Filter.B_ != 3 else false)).bind fun b5=>
  (some (if b5 then a0.Filter.B_ != 5 else false)).bind fun b6=>
  (some (if !r4 then true else b6)).bind fun b7=>
  (if b7 then
   some ([]:List UInt8)
  else
   (IL a0.Filter).bind fun r9=>
   (cat qo r9).bind fun s10=>
   (cat s10 dM).bind fun s11=>
   (if a0.acq then
    (cat NA s11).bind fun s13=>
    some s13
   else
    (cat qp s11).bind fun s14=>
    some s14)))
def QT:Cj:=mC [Di,PY] 207 Tryz.f207 .n [.s 184] [.k (.str)] (fun x=>Fo x.1) Tryz.func207 (by kernel_rfl)
def Zs (ajX:Aa):Option (Aa):=
 some ajX
def DF (a1:Int) (a2:Int) (ae7:Int) (amf:Aa):Option ((Int×Aa)⊕(Aa)):=
 (if decide (ae7<a2) then
  (D9 amf (2:Int) a1).bind fun r11=>
  (if((r11.length:Int)==0) then
   some (.inr amf)
  else
   (idx r11 (0:Int)).bind fun e13=>
   (Fn amf e13 (1:Int) a1 false).bind fun r14=>
   some (.inl ((Ac (ae7+1)),r14.1)))
 else
  some (.inr amf))
def IP (a0:Aa) (a1:Int) (a2:Int):Option (Aa):=
 jn (fun(v:Aa)=>Zs v) (fun jJ2=>
 (iter (fun(v:Int×Aa)=>DF a1 a2 v.1 v.2) FU ((0:Int),a0)).bind (fun o0=>jJ2 o0))
def P1:Cj:=mC [Lq,VB] 36 Tryz.f36 (.s .n (.j ⟨[3,6],[],[[6]],[([3], .box [.v (.s 36)])]⟩ (.s .n (.l ⟨[1,3,6,8],[BS 9],[[6]],[([3], .box [.v (.s 36)])]⟩ [(1,⟨[3,6],[],[[6]],[([3], .box [.v (.s 36)])]⟩)] (.s .n (.s .n (.s (.s .n (.s .n (.r [] [] (.t (.q 0 .lz .n))))) .n))))) .n)) [.s 36, .k (.int .i64), .k (.int .i64)] [.s 36] (fun x=>IP x.1 x.2.1 x.2.2.1) Tryz.func36 (by kernel_rfl)
def aZ (a0:Aw) (a1:List (Int)) (an0:Bool):Option (Bool):=
 (if an0 then
  (EV a0 a1).bind fun r22=>
  (gd (r22==true) (Sw a0 a1)).bind fun r23=>
  (some (if r22 then r23 else false)).bind fun b24=>
  some b24
 else if a0.Kind==8 then
  (Si a0 a1).bind fun r26=>
  some r26
 else
  some false)
def Nr (a0:Aw) (a1:List (Int)) (ake:Bool):Option (Bool):=
 (if ake then
  (gd (((a1.length:Int)==1)==true) (EV a0 a1)).bind fun r5=>
  (some (if((a1.length:Int)==1) then r5 else false)).bind fun b6=>
  some b6
 else if a0.Kind==3 then
  (some (if(decide (a0.adI<=(a1.length:Int))) then decide ((a1.length:Int)<=a0.anB)else false)).bind fun b8=>
  (gd (b8==true) (EV a0 a1)).bind fun r9=>
  (some (if b8 then r9 else false)).bind fun b10=>
  some b10
 else if a0.Kind==4 then
  (gd (((a1.length:Int)==(a0.Options.length:Int))==true) (EV a0 a1)).bind fun r12=>
  (some (if((a1.length:Int)==(a0.Options.length:Int)) then r12 else false)).bind fun b13=>
  some b13
 else if a0.Kind==5 then
  (gd (((a1.length:Int)==1)==true) (idx a1 (0:Int))).bind fun e15=>
  (some (if((a1.length:Int)==1) then decide (a0.adI<=e15)else false)).bind fun b16=>
  (gd (b16==true) (idx a1 (0:Int))).bind fun e17=>
  (some (if b16 then decide (e17<=a0.anB)else false)).bind fun b18=>
  some b18
 else
  jn (fun(v:Bool)=>aZ a0 a1 v) (fun aov=>
  (if a0.Kind==6 then
   aov (a0.Kind==6)
  else
   aov (a0.Kind==7))))
def MA (a0:Aw) (a1:List (Int)):Option (Bool):=
 (if(decide (256<(a1.length:Int))) then
  some false
 else
  jn (fun(v:Bool)=>Nr a0 a1 v) (fun jJ3=>
  (if a0.Kind==1 then
   jJ3 (a0.Kind==1)
  else if a0.Kind==2 then
   jJ3 (a0.Kind==2)
  else if a0.Kind==9 then
   jJ3 (a0.Kind==9)
  else if a0.Kind==10 then
   jJ3 (a0.Kind==10)
  else
   jJ3 (a0.Kind==11))))
def VC:Cj:=mC [aU,Zq,Y4] 81 Tryz.f81 (.s .n (.s .n (.s (.s .n (.j ⟨[1,2,9],[JL 10],[[2]],[]⟩ .n (.i .n (.s .n (.i .n (.s .n (.i .n (.s .n (.i .n (.j ⟨[1,2,9],[JL 77],[[2]],[]⟩ .n .n)))))))))) .n))) [.s 54, .k (.t_ 3)] [.k (.bool)] (fun x=>MA x.1 x.2.1) Tryz.func81 (by kernel_rfl)
def Lw (a1:Int) (ari:Aa):Option (Aa):=
 (D9 ari (2:Int) a1).bind fun r3=>
 (DT ari.ab2 r3).bind fun r4=>
 (Sx ari (2:Int) a1 r4.1).bind fun r5=>
 some ({r5 with ab2:=r4.2})
def C2 (a1:Int) (r6:(List (Int))) (aiC:Int) (ap0:Aa):Option ((Int×Aa)⊕(Aa)):=
 (if(decide (aiC<(r6.length:Int))) then
  (idx r6 aiC).bind fun e15=>
  (Fn ap0 e15 (2:Int) a1 false).bind fun r16=>
  some (.inl ((Ac (aiC+1)),r16.1))
 else
  some (.inr ap0))
def EX (a0:Aa) (a1:Int):Option (Aa):=
 jn (fun(v:Aa)=>Lw a1 v) (fun jJ2=>
 (D9 a0 (1:Int) a1).bind fun r6=>
 (iter (fun(v:Int×Aa)=>C2 a1 r6 v.1 v.2) FU ((0:Int),a0)).bind (fun o0=>jJ2 o0))
def MB:Cj:=mC [Lq,VB,OO,oM] 39 Tryz.f39 (.s .n (.j ⟨[1,2,4],[],[[4]],[([2], .box [.v (.s 36)])]⟩ (.s .n (.l ⟨[1,2,4,11,12],[BS 13],[[4]],[([2], .box [.v (.s 36)])]⟩ [(1,⟨[1,2,4],[],[[4]],[([2], .box [.v (.s 36)])]⟩)] .n)) (.s (.r [] [] (.t (.q 2 .lz .n))) .n))) [.s 36, .k (.int .i64)] [.s 36] (fun x=>EX x.1 x.2.1) Tryz.func39 (by kernel_rfl)
def KL (a0:Aa):Option (Bool):=
 (D2 a0 a0.AT (0:Int) (-1:Int)).bind fun r4=>
 (gd (r4==true) (D2 a0 a0.acv (4:Int) (-1:Int))).bind fun r5=>
 (some (if r4 then r5 else false)).bind fun b6=>
 some b6
def I7 (a0:Aa) (afU:Int):Option ((Int)⊕(Unit⊕Bool)):=
 (if(decide (afU<(a0.bk.length:Int))) then
  (idx a0.bk afU).bind fun e12=>
  (G7 e12.adC (-1000000:Int) (1000000:Int)).bind fun r13=>
  (gd ((!r13)==false) (G7 e12.aj0 (0:Int) (1000000:Int))).bind fun r14=>
  (some (if !r13 then true else !r14)).bind fun b15=>
  (gd (b15==false) (G7 e12.aj1 (0:Int) (1000000:Int))).bind fun r16=>
  (some (if b15 then true else !r16)).bind fun b17=>
  (gd (b17==false) (Uf e12.acj)).bind fun r18=>
  (some (if b17 then true else !r18)).bind fun b19=>
  (if b19 then
   some (.inr (.inr false))
  else
   (D2 a0 e12.q_ (2:Int) afU).bind fun r21=>
   (gd ((!r21)==false) (D2 a0 e12.Hand (1:Int) afU)).bind fun r22=>
   (some (if !r21 then true else !r22)).bind fun b23=>
   (gd (b23==false) (D2 a0 e12.abx (3:Int) afU)).bind fun r24=>
   (some (if b23 then true else !r24)).bind fun b25=>
   (if b25 then
    some (.inr (.inr false))
   else
    some (.inl (Ac (afU+1)))))
 else
  some (.inr (.inl ())))
def Lx (a0:Aa):Option (Bool):=
 (G7 (a0.bk.length:Int) (2:Int) (4:Int)).bind fun r1=>
 (if !r1 then
  some false
 else
  jn (fun(v:Unit)=>KL a0) (fun jJ3=>
  (iter (fun(v:Int)=>I7 a0 v) FU (0:Int)).bind (Sum.elim (fun o0=>jJ3 ()) (fun o1=>some o1))))
def a8:Cj:=mC [Sk,lc,akZ] 50 Tryz.f50 (.s .n (.s .n (.j ⟨[1],[],[[1]],[]⟩ (.s .n (.l ⟨[1],[BS 3],[[1]],[]⟩ [(1,⟨[1],[],[[1]],[]⟩),(0,⟨[],[JL 2],[],[]⟩)] .n)) .n))) [.s 36] [.k (.bool)] (fun x=>Lx x.1) Tryz.func50 (by kernel_rfl)
end Go.PL
