/- Functions of the program, as partial functions in Lean, with proofs. -/
import Derived.Test.YtiddnfpjgojoaaaGreatDoorPlEdB
import Derived.Test.YtiddnfpjgojoaaaGreatDoorPlEdF2
import Derived.Test.YtiddnfpjgojoaaaGreatDoorPlEdF5
import Derived.Test.YtiddnfpjgojoaaaGreatDoorPlEdF8
namespace Go.PL
open Go Go.RowKit Go.Proofs
set_option maxRecDepth 100000
set_option linter.all false
set_option maxHeartbeats 4000000
attribute [local irreducible] Aj BO Bz
def Zf (l13_3:List (AU)):Option ((List (AU))):=
 some l13_3
def Io (a1:Ao) (i_t11_8:Int) (l13_9:List (AU)):Option ((Int×(List (AU)))⊕((List (AU)))):=
 (if(decide (i_t11_8<(a1.Conts.length:Int)))=true then
  (idx a1.Conts i_t11_8).bind fun e13=>
  (app 224 l13_9 ([(⟨e13.Source,(-1:Int),e13.Control,e13.Stamp,true,e13.Objects,(⟨0,0,0,0,0,0,0,[],0,0,(⟨0,0⟩:Az),(⟨0,0⟩:Az),(⟨0,0⟩:Az)⟩:Ar),e13.Mods⟩:AU)]:List (AU))).bind fun l14=>
  some (.inl ((Ac (i_t11_8+1)),l14))
 else
  some (.inr l13_9))
def OO (a1:Ao) (l13_1:List (AU)):Option ((List (AU))):=
 jn (fun(v:(List (AU)))=>Zf v) (fun jJ4=>
 (iter (fun(v:Int×(List (AU)))=>Io a1 v.1 v.2) FU ((0:Int),l13_1)).bind (fun o0=>jJ4 o0))
def M8 (i_t6_18:Int) (l13_23:List (AU)):Option ((Int×(List (AU)))⊕((List (AU)))):=
 some (.inl ((Ac (i_t6_18+1)),l13_23))
def M9 (k_t9_31:Int) (l13_36:List (AU)):Option ((Int×(List (AU)))⊕((List (AU)))):=
 some (.inl ((Ac (k_t9_31+1)),l13_36))
def Ip (e25:AO) (r27:Ah) (k_t9_31:Int) (l13_32:List (AU)):Option ((Int×(List (AU)))⊕((List (AU)))):=
 (if(decide (k_t9_31<(r27.Abilities.length:Int)))=true then
  jn (fun(v:(List (AU)))=>M9 k_t9_31 v) (fun jJ37=>
  (idx r27.Abilities k_t9_31).bind fun e38=>
  (if(e38.Kind==1)=true then
   (app 224 l13_32 ([(⟨e25.Id,k_t9_31,e25.Control,e25.Stamp,false,([]:List (Int)),e38.Filter,e38.Mods⟩:AU)]:List (AU))).bind fun l40=>
   jJ37 l40
  else
   jJ37 l13_32))
 else
  some (.inr l13_32))
def Iq (a0:List (A1)) (a1:Ao) (i_t6_18:Int) (l13_19:List (AU)):Option ((Int×(List (AU)))⊕((List (AU)))):=
 (if(decide (i_t6_18<(a1.Objects.length:Int)))=true then
  jn (fun(v:(List (AU)))=>M8 i_t6_18 v) (fun jJ24=>
  (idx a1.Objects i_t6_18).bind fun e25=>
  (if(e25.Zone != 0)=true then
   jJ24 l13_19
  else
   (SR a0 e25).bind fun r27=>
   (iter (fun(v:Int×(List (AU)))=>Ip e25 r27 v.1 v.2) FU ((0:Int),l13_19)).bind (fun o0=>jJ24 o0)))
 else
  some (.inr l13_19))
def Ir (a0:List (A1)) (a1:Ao):Option ((List (AU))):=
 jn (fun(v:(List (AU)))=>OO a1 v) (fun jJ2=>
 (iter (fun(v:Int×(List (AU)))=>Iq a0 a1 v.1 v.2) FU ((0:Int),([]:List (AU)))).bind (fun o0=>jJ2 o0))
def dY:CE TE Tryz.prog I0:=AK [iE] Ab Ad 9 36 Tryz.f36 (Tryz.f36.body.getD .skip) (.s .n (.s .n (.j ⟨[3],[(5, .c (.c (.osl [13])))],[[3]],[([13], .row 95)]⟩ (.s .n (.l ⟨[0,3],[(5, .c (.c (.osl [13]))),(6, .c (.v (.k (.int .i64))))],[[3]],[([13], .row 95)]⟩ [(1,⟨[3],[(5, .c (.c (.osl [13])))],[[3]],[([13], .row 95)]⟩)] (.s .n (.j ⟨[0,3,6],[(5, .c (.c (.osl [13])))],[[3]],[([13], .row 95)]⟩ (.s .n (.s .n (.s .n (.s .n (.l ⟨[0,3,6,7,8],[(5, .c (.c (.osl [13]))),(9, .c (.v (.k (.int .i64))))],[[3],[7],[8]],[([13], .row 95)]⟩ [(3,⟨[0,3,6],[(5, .c (.c (.osl [13])))],[[3]],[([13], .row 95)]⟩)] (.s .n (.j ⟨[0,3,6,7,8,9],[(5, .c (.c (.osl [13])))],[[3],[7],[8]],[([13], .row 95)]⟩ .n .n))))))) .n)))) (.j ⟨[],[(5, .c (.c (.osl [13])))],[],[([13], .row 95)]⟩ (.s .n (.l ⟨[3],[(5, .c (.c (.osl [13]))),(11, .c (.v (.k (.int .i64))))],[[3]],[([13], .row 95)]⟩ [(5,⟨[],[(5, .c (.c (.osl [13])))],[],[([13], .row 95)]⟩)] .n)) .n)))) [.k (.lst 73), .s 31] [.k (.lst 95)] (fun x=>Ir x.1 x.2.1) Tryz.func36 rfl (by kernel_rfl)
def Rv (a0:List (A1)) (a1:Ao) (r:(List (AU))):Prop:=AQ Tryz.prog I0 36 [vL B8 a0,vA A4 a1] (· =vL AA r)
theorem Zg {a0:List (A1)} {a1:Ao} {r:(List (AU))} (h:Ir a0 a1=some r):Rv a0 a1 r:=Cz (by kernel_rfl) (dY.ok (a0,a1,()) r h)
def FS (a0:AO) (a1:Ah) (a2:Int) (a3:Int) (a4:Ar):Option (Bool):=
 (FQ a4).bind fun r1=>
 (some (if(!r1)=true then true else a0.Zone != a4.Zone)).bind fun b2=>
 (gd (b2==false) (VS a1.Control a2 a4.Who)).bind fun r3=>
 (some (if b2=true then true else !r3)).bind fun b4=>
 (gd (b4==false) (Q5 a0.Id a3 a4.Self)).bind fun r5=>
 (some (if b4=true then true else !r5)).bind fun b6=>
 (gd (b6==false) (VU a0.Tapped a4.Tap)).bind fun r7=>
 (some (if b6=true then true else !r7)).bind fun b8=>
 (if b8=true then
  some false
 else
  (gd ((a4.Types != 0)==true) (C9 a1.Line.Types a4.Types)).bind fun r10=>
  (some (if(a4.Types != 0)=true then !r10 else false)).bind fun b11=>
  (gd (b11==false) (C9 a1.Line.Types a4.NotTypes)).bind fun r12=>
  (some (if b11=true then true else r12)).bind fun b13=>
  (if b13=true then
   some false
  else
   (gd ((a4.Colors != 0)==true) (C9 a1.Colors a4.Colors)).bind fun r15=>
   (some (if(a4.Colors != 0)=true then !r15 else false)).bind fun b16=>
   (gd (b16==false) (C9 a1.Colors a4.NotColors)).bind fun r17=>
   (some (if b16=true then true else r17)).bind fun b18=>
   (if b18=true then
    some false
   else
    (gd ((a4.Sub != ([]:List UInt8))==true) (FN a1.Line a4.Sub)).bind fun r20=>
    (some (if(a4.Sub != ([]:List UInt8))=true then !r20 else false)).bind fun b21=>
    (gd (b21==false) (VV a1.Keys a4.Keys)).bind fun r22=>
    (some (if b21=true then true else !r22)).bind fun b23=>
    (if b23=true then
     some false
    else
     (Le a1 a4).bind fun r25=>
     some r25))))
def Rw:CE TE Tryz.prog I0:=AK [Ev,px,lC,py,OI,Q9,pz,dP] Ab Ad 9 108 Tryz.f108 (Tryz.f108.body.getD .skip) .n [.s 61, .s 70, .k (.int .i64), .k (.int .i64), .s 92] [.k (.bool)] (fun x=>FS x.1 x.2.1 x.2.2.1 x.2.2.2.1 x.2.2.2.2.1) Tryz.func108 rfl (by kernel_rfl)
def dZ (a0:AO) (a1:Ah) (a2:Int) (a3:Int) (a4:Ar) (r:Bool):Prop:=AQ Tryz.prog I0 108 [vA Ai a0,vA Ag a1,vI a2,vI a3,vA B0 a4] (· =vB r)
theorem Zh {a0:AO} {a1:Ah} {a2:Int} {a3:Int} {a4:Ar} {r:Bool} (h:FS a0 a1 a2 a3 a4=some r):dZ a0 a1 a2 a3 a4 r:=Cz (by kernel_rfl) (Rw.ok (a0,a1,a2,a3,a4,()) r h)
end Go.PL
