/- Functions of the program, as partial functions in Lean, with proofs. -/
import Derived.Test.YtenjiecnhncfiaaGreatDoorPlBeB
import Derived.Test.YtenjiecnhncfiaaGreatDoorPlBeF0
import Derived.Test.YtenjiecnhncfiaaGreatDoorPlBeF1
import Derived.Test.YtenjiecnhncfiaaGreatDoorPlBeF2
import Derived.Test.YtenjiecnhncfiaaGreatDoorPlBeF3
import Derived.Test.YtenjiecnhncfiaaGreatDoorPlBeF4
import Derived.Test.YtenjiecnhncfiaaGreatDoorPlBeF5
import Derived.Test.YtenjiecnhncfiaaGreatDoorPlBeF6
import Derived.Test.YtenjiecnhncfiaaGreatDoorPlBeF8
namespace Go.PL
open Go Go.RowKit Go.Proofs
set_option maxRecDepth 100000
set_option linter.all false
set_option maxHeartbeats 4000000
attribute [local irreducible] Ag Cv Co
def GY (a0:AE):Option (Bool):=
 (gd ((a0.Kind != 3)==false) (Df a0.y_)).bind fun r16=>
 (some (if a0.Kind != 3 then true else r16 != ([]:List UInt8))).bind fun b17=>
 (gd ((b17==true)&&((a0.Kind != 4)==false)) (CD a0.c_)).bind fun r18=>
 (some (if a0.Kind != 4 then true else r18)).bind fun b19=>
 (some (if b17 then b19 else false)).bind fun b20=>
 some b20
def DA (a0:AE) (agJ:Int):Option ((Int)⊕(Unit⊕Bool)):=
 (if(decide (agJ<(a0.f_.length:Int))) then
  (idx a0.f_ agJ).bind fun e26=>
  (Gm e26 (a0.D_.length:Int)).bind fun r27=>
  (if !r27 then
   some (.inr (.inr false))
  else
   some (.inl (Ad (agJ+1))))
 else
  some (.inr (.inl ())))
def KI (a0:AE):Option (Bool):=
 jn (fun(v:Unit)=>GY a0) (fun adl=>
 (iter (fun(v:Int)=>DA a0 v) FU (0:Int)).bind (Sum.elim (fun o0=>adl ()) (fun o1=>some o1)))
def DB (a0:AE) (agL:Int):Option ((Int)⊕(Unit⊕Bool)):=
 (if(decide (agL<(a0.D_.length:Int))) then
  (idx a0.D_ agL).bind fun e34=>
  (E3 e34).bind fun r35=>
  (if(r35==([]:List UInt8)) then
   some (.inr (.inr false))
  else
   some (.inl (Ad (agL+1))))
 else
  some (.inr (.inl ())))
def LI (a0:AE) (anm:Int) (akG:Aj) (al5:BV) (anl:Bool) (ajq:A0) (aoR:Bool) (ajr:Au):Option (Bool):=
 (EN a0 (⟨anm,akG,([]:List (A1)),al5,anl,ajq,aoR,a0.D_,a0.f_,ajr⟩:AE)).bind fun r9=>
 (some (if !r9 then true else decide (4<(a0.D_.length:Int)))).bind fun b10=>
 (some (if b10 then true else(a0.f_.length:Int)==0)).bind fun b11=>
 (some (if b11 then true else decide (8<(a0.f_.length:Int)))).bind fun b12=>
 (if b12 then
  some false
 else
  jn (fun(v:Unit)=>KI a0) (fun adm=>
  (iter (fun(v:Int)=>DB a0 v) FU (0:Int)).bind (Sum.elim (fun o0=>adm ()) (fun o1=>some o1))))
def CW (a0:AE):Option (Bool):=
 jn (fun(v:Int×Aj×BV×Bool×A0×Bool×Au)=>LI a0 v.1 v.2.1 v.2.2.1 v.2.2.2.1 v.2.2.2.2.1 v.2.2.2.2.2.1 v.2.2.2.2.2.2) (fun jJ8=>
 (if a0.Kind==1 then
  (EN a0 (⟨a0.Kind,a0.Filter,a0.Tg,(⟨(⟨0,0,(⟨0,0,0,0,0⟩:A5 (Int))⟩:AB),false,false,0⟩:BV),false,(⟨0,0,(⟨0,0,0,0,0,0,0,[],0,0,(⟨0,0⟩:Af),(⟨0,0⟩:Af),(⟨0,0⟩:Af)⟩:Aj)⟩:A0),false,([]:List (Dc)),([]:List (Av)),(⟨0,0,(⟨0,0,0,0,0,0,0,[],0,0,(⟨0,0⟩:Af),(⟨0,0⟩:Af),(⟨0,0⟩:Af)⟩:Aj),0,0,0,0⟩:Au)⟩:AE)).bind fun r38=>
  (gd (r38==true) (BX a0.Filter)).bind fun r39=>
  (some (if r38 then r39 else false)).bind fun b40=>
  (some (if b40 then a0.Filter.q_==0 else false)).bind fun b41=>
  (gd (b41==true) (E4 a0.Tg)).bind fun r42=>
  (some (if b41 then r42 != ([]:List UInt8)else false)).bind fun b43=>
  some b43
 else
  (if a0.Kind==5 then
   (EN a0 (⟨a0.Kind,(⟨0,0,0,0,0,0,0,[],0,0,(⟨0,0⟩:Af),(⟨0,0⟩:Af),(⟨0,0⟩:Af)⟩:Aj),([]:List (A1)),(⟨(⟨0,0,(⟨0,0,0,0,0⟩:A5 (Int))⟩:AB),false,false,0⟩:BV),false,(⟨0,0,(⟨0,0,0,0,0,0,0,[],0,0,(⟨0,0⟩:Af),(⟨0,0⟩:Af),(⟨0,0⟩:Af)⟩:Aj)⟩:A0),false,([]:List (Dc)),([]:List (Av)),a0.Replace⟩:AE)).bind fun r45=>
   (gd (r45==true) (CC a0.Replace)).bind fun r46=>
   (some (if r45 then r46 else false)).bind fun b47=>
   some b47
  else
   (if a0.Kind==2 then
    jJ8 (a0.Kind,(⟨0,0,0,0,0,0,0,[],0,0,(⟨0,0⟩:Af),(⟨0,0⟩:Af),(⟨0,0⟩:Af)⟩:Aj),(⟨(⟨0,0,(⟨0,0,0,0,0⟩:A5 (Int))⟩:AB),false,false,0⟩:BV),false,(⟨0,0,(⟨0,0,0,0,0,0,0,[],0,0,(⟨0,0⟩:Af),(⟨0,0⟩:Af),(⟨0,0⟩:Af)⟩:Aj)⟩:A0),false,(⟨0,0,(⟨0,0,0,0,0,0,0,[],0,0,(⟨0,0⟩:Af),(⟨0,0⟩:Af),(⟨0,0⟩:Af)⟩:Aj),0,0,0,0⟩:Au))
   else
    (if a0.Kind==3 then
     jJ8 (a0.Kind,(⟨0,0,0,0,0,0,0,[],0,0,(⟨0,0⟩:Af),(⟨0,0⟩:Af),(⟨0,0⟩:Af)⟩:Aj),a0.y_,a0.ac0,(⟨0,0,(⟨0,0,0,0,0,0,0,[],0,0,(⟨0,0⟩:Af),(⟨0,0⟩:Af),(⟨0,0⟩:Af)⟩:Aj)⟩:A0),false,(⟨0,0,(⟨0,0,0,0,0,0,0,[],0,0,(⟨0,0⟩:Af),(⟨0,0⟩:Af),(⟨0,0⟩:Af)⟩:Aj),0,0,0,0⟩:Au))
    else
     (if a0.Kind==4 then
      jJ8 (a0.Kind,(⟨0,0,0,0,0,0,0,[],0,0,(⟨0,0⟩:Af),(⟨0,0⟩:Af),(⟨0,0⟩:Af)⟩:Aj),(⟨(⟨0,0,(⟨0,0,0,0,0⟩:A5 (Int))⟩:AB),false,false,0⟩:BV),false,a0.c_,a0.May,(⟨0,0,(⟨0,0,0,0,0,0,0,[],0,0,(⟨0,0⟩:Af),(⟨0,0⟩:Af),(⟨0,0⟩:Af)⟩:Aj),0,0,0,0⟩:Au))
     else
      some false))))))
def kz:CE TE Tryz.prog I0:=AA [bn,De,Py,kp,RL,nO,Qs,kq] Aa Ac 9 104 Tryz.f104 (Tryz.f104.body.getD .skip) (.s .n (.s .n (.j ⟨[1,3],[],[[1]],[([3], .box [.v (.k (.int .i64)), .v (.s 93), .c (.L_), .v (.s 96), .v (.k (.bool)), .v (.s 98), .v (.k (.bool)), .c (.L_), .c (.L_), .v (.s 102)])]⟩ (.s .n (.s .n (.i (.s (.r [] [] (.t (.q 1 .lz (.q 3 .lz .n)))) .n) (.s .n (.i .n (.s .n (.i .n (.s .n (.i (.r [] [] (.t (.q 1 .lz .n))) (.s .n (.i (.r [] [] (.t (.q 1 .lz .n))) .n))))))))))) (.s (.r [] [] (.t (.q 1 .lz (.q 3 .lz .n)))) (.s .n (.j ⟨[1],[],[[1]],[]⟩ (.s .n (.l ⟨[1,101,102],[(103, .c (.v (.k (.int .i64))))],[[1]],[]⟩ [(2,⟨[1],[],[[1]],[]⟩),(0,⟨[],[(2, .c (.v (.k (.bool))))],[],[]⟩)] .n)) (.j ⟨[1],[],[[1]],[]⟩ (.s .n (.l ⟨[1,112,113],[(114, .c (.v (.k (.int .i64))))],[[1]],[]⟩ [(4,⟨[1],[],[[1]],[]⟩),(0,⟨[],[(2, .c (.v (.k (.bool))))],[],[]⟩)] .n)) .n))))))) [.s 104] [.k (.bool)] (fun x=>CW x.1) Tryz.func104 rfl (by kernel_rfl)
def RQ (adJ:Bool) (b8:Bool) (b12:Bool) (adf:Bool) (aeM:Bool) (afg:Bool) (aii:Bool) (an3:Bool):Option (Bool):=
 (some (if adJ then b8 else false)).bind fun b23=>
 (some (if b23 then b12 else false)).bind fun b24=>
 (some (if b24 then adf else false)).bind fun b25=>
 (some (if b25 then aeM else false)).bind fun b26=>
 (some (if b26 then afg else false)).bind fun b27=>
 (some (if b27 then aii else false)).bind fun b28=>
 (some (if b28 then an3 else false)).bind fun b29=>
 some b29
def RR (a0:Av) (adJ:Bool) (b8:Bool) (b12:Bool) (adf:Bool) (aeM:Bool) (afg:Bool) (aii:Bool):Option (Bool):=
 jn (fun(v:Bool)=>RQ adJ b8 b12 adf aeM afg aii v) (fun amS=>
 (Bv a0.Op (102:Int)).bind fun r30=>
 (if r30 then
  (NM a0.Op a0.Filter).bind fun r32=>
  amS r32
 else
  amS (a0.Filter==(⟨0,0,0,0,0,0,0,[],0,0,(⟨0,0⟩:Af),(⟨0,0⟩:Af),(⟨0,0⟩:Af)⟩:Aj))))
def RS (a0:Av) (adJ:Bool) (b8:Bool) (b12:Bool) (adf:Bool) (aeM:Bool) (afg:Bool):Option (Bool):=
 jn (fun(v:Bool)=>RR a0 adJ b8 b12 adf aeM afg v) (fun akh=>
 (Bv a0.Op (112:Int)).bind fun r33=>
 (if r33 then
  (gd ((!(a0.abe==(⟨0,0,0,0,0,0⟩:A6 (Int))))==true) (GX a0.abe)).bind fun r35=>
  (some (if(!(a0.abe==(⟨0,0,0,0,0,0⟩:A6 (Int)))) then r35 != ([]:List UInt8)else false)).bind fun b36=>
  akh b36
 else
  akh (a0.abe==(⟨0,0,0,0,0,0⟩:A6 (Int)))))
def RU (a0:Av) (adJ:Bool) (b8:Bool) (b12:Bool) (adf:Bool) (aeM:Bool):Option (Bool):=
 jn (fun(v:Bool)=>RS a0 adJ b8 b12 adf aeM v) (fun ahv=>
 (Bv a0.Op (109:Int)).bind fun r37=>
 (if r37 then
  (Un a0.Tg).bind fun r39=>
  ahv r39
 else
  ahv ((a0.Tg.length:Int)==0)))
def RV (a0:Av) (adJ:Bool) (b8:Bool) (b12:Bool) (adf:Bool):Option (Bool):=
 jn (fun(v:Bool)=>RU a0 adJ b8 b12 adf v) (fun adW=>
 (Bv a0.Op (97:Int)).bind fun r40=>
 (if r40 then
  (RO a0.M_).bind fun r42=>
  adW r42
 else
  adW (a0.M_==(⟨0,0,0,(⟨0,0,0,0,0,0,0,[],0,0,(⟨0,0⟩:Af),(⟨0,0⟩:Af),(⟨0,0⟩:Af)⟩:Aj)⟩:AY))))
def V1 (a0:Av) (adJ:Bool):Option (Bool):=
 (gd ((a0.q_==0)==false) (Bv a0.Op (122:Int))).bind fun r5=>
 (some (if r5 then decide (0<a0.q_)else false)).bind fun b6=>
 (some (if b6 then decide (a0.q_<=4)else false)).bind fun b7=>
 (some (if a0.q_==0 then true else b7)).bind fun b8=>
 (gd ((a0.o_==0)==false) (Bv a0.Op (107:Int))).bind fun r9=>
 (gd (((a0.o_==0)==false)&&(r9==true)) (Ph a0.o_)).bind fun r10=>
 (some (if r9 then r10 != ([]:List UInt8)else false)).bind fun b11=>
 (some (if a0.o_==0 then true else b11)).bind fun b12=>
 jn (fun(v:Bool)=>RV a0 adJ b8 b12 v) (fun adm=>
 (Bv a0.Op (99:Int)).bind fun r43=>
 (if r43 then
  (VO a0.ab1).bind fun r45=>
  adm r45
 else
  adm (a0.ab1==([]:List UInt8))))
def RW (a0:Av) (a1:Int):Option (Bool):=
 (Ms a0.Op).bind fun r1=>
 (if(r1==([]:List UInt8)) then
  some false
 else
  jn (fun(v:Bool)=>V1 a0 v) (fun jJ4=>
  (Bv a0.Op (114:Int)).bind fun r46=>
  (if r46 then
   (RN a0.Ref a1).bind fun r48=>
   jJ4 r48
  else
   jJ4 (a0.Ref==(⟨0,0,(⟨0,0,0,0,0,0,0,[],0,0,(⟨0,0⟩:Af),(⟨0,0⟩:Af),(⟨0,0⟩:Af)⟩:Aj)⟩:Ht)))))
def ym:CE TE Tryz.prog I0:=AA [qR,qY,yj,bM,bW,yk,rj,cC,ky] Aa Ac 9 127 Tryz.f127 (Tryz.f127.body.getD .skip) (.s .n (.s .n (.s .n (.j ⟨[2],[(5, .c (.v (.k (.bool))))],[[2]],[]⟩ .n (.s .n (.s .n (.s .n (.j ⟨[2,5,6,7],[(8, .c (.v (.k (.bool))))],[[2]],[]⟩ .n (.s .n (.j ⟨[2,5,6,7,8],[(9, .c (.v (.k (.bool))))],[[2]],[]⟩ .n (.s .n (.j ⟨[2,5,6,7,8,9],[(10, .c (.v (.k (.bool))))],[[2]],[]⟩ .n (.s .n (.j ⟨[2,5,6,7,8,9,10],[(11, .c (.v (.k (.bool))))],[[2]],[]⟩ .n (.s .n (.j ⟨[5,6,7,8,9,10,11],[(12, .c (.v (.k (.bool))))],[],[]⟩ .n .n)))))))))))))))) [.s 126, .k (.int .i64)] [.k (.bool)] (fun x=>RW x.1 x.2.1) Tryz.func127 rfl (by kernel_rfl)
end Go.PL
