/- Functions of the program, as partial functions in Lean, with proofs. -/
import Derived.Test.YtenjiecnhncfiaaGreatDoorPlBeB
import Derived.Test.YtenjiecnhncfiaaGreatDoorPlBeF0
import Derived.Test.YtenjiecnhncfiaaGreatDoorPlBeF1
import Derived.Test.YtenjiecnhncfiaaGreatDoorPlBeF12
import Derived.Test.YtenjiecnhncfiaaGreatDoorPlBeF2
import Derived.Test.YtenjiecnhncfiaaGreatDoorPlBeF3
namespace Go.PL
open Go Go.RowKit Go.Proofs
set_option maxRecDepth 100000
set_option linter.all false
set_option maxHeartbeats 4000000
attribute [local irreducible] Ag Cv Co
def eJ (agv:List (Int)) (al3:List (Int)) (al0:List (Bd)) (ajk:List (AK)) (al4:List (Cm)) (anj:Int) (ajp:Int) (alZ:Int) (akF:Bool) (ahN:Int) (ajl:Int) (ajm:Int) (ahj:Int) (al1:Int) (akB:List (Int)) (al2:Int) (ajj:Int) (aj8:List (Ar)) (aj2:Int) (aeT:List (Ay)):Option (Ao×Int):=
 some ((⟨aeT,aj8,agv,al3,al0,ajk,al4,anj,ajp,alZ,akF,ahN,ajl,ajm,ahj,al1,akB,al2,ajj⟩:Ao),(0:Int))
def cK (aat:Int) (af2:List (Int)) (akC:List (Int)) (aky:List (Bd)) (aiD:List (AK)) (akD:List (Cm)) (alX:Int) (ajo:Int) (alY:Int) (akE:Bool) (ahM:Int) (aiE:Int) (aiF:Int) (agu:Int) (akz:Int) (ajn:List (Int)) (akA:Int) (aiC:Int) (aiX:List (Ar)) (aex:Int) (aey:List (Ay)):Option ((Int×(List (Int))×(List (Int))×(List (Bd))×(List (AK))×(List (Cm))×Int×Int×Int×Bool×Int×Int×Int×Int×Int×(List (Int))×Int×Int×(List (Ar))×Int×(List (Ay)))⊕(((List (Int))×(List (Int))×(List (Bd))×(List (AK))×(List (Cm))×Int×Int×Int×Bool×Int×Int×Int×Int×Int×(List (Int))×Int×Int×(List (Ar))×Int×(List (Ay))))):=
 some (.inl ((Ad (aat+1)),af2,akC,aky,aiD,akD,alX,ajo,alY,akE,ahM,aiE,aiF,agu,akz,ajn,akA,aiC,aiX,aex,aey))
def GZ (aat:Int) (amA:(List (Int))×Int) (agH:Int) (acT:List (Int)) (agi:List (Int)) (agd:List (Bd)) (aeK:List (AK)) (agj:List (Cm)) (ahe:Int) (afI:Int) (ahf:Int) (agk:Bool) (aec:Int) (afH:Int) (acq:Int) (ach:Int) (ahh:Int) (agh:List (Int)) (ahi:Int) (afF:Int) (af7:List (Ar)) (aaB:Int) (Tf:List (Ay)):Option ((Int×(List (Int))×(List (Int))×(List (Bd))×(List (AK))×(List (Cm))×Int×Int×Int×Bool×Int×Int×Int×Int×Int×(List (Int))×Int×Int×(List (Ar))×Int×(List (Ay)))⊕(((List (Int))×(List (Int))×(List (Bd))×(List (AK))×(List (Cm))×Int×Int×Int×Bool×Int×Int×Int×Int×Int×(List (Int))×Int×Int×(List (Ar))×Int×(List (Ay))))):=
 (if(decide (agH<(amA.1.length:Int))) then
  (idx amA.1 agH).bind fun aoN=>
  (RE acq aoN aat (2:Int) ach).bind fun av2=>
  (app 128 af7 ([av2]:List (Ar))).bind fun awB=>
  (idx Tf aat).bind fun aFv=>
  (idx Tf aat).bind fun ayj=>
  (n_ (aat<aaB)).bind fun aCE=>
  (app 8 ayj.aap ([acq]:List (Int))).bind fun awA=>
  (idx Tf aat).bind fun ayi=>
  (idx Tf aat).bind fun ayh=>
  (n_ (aat<aaB)).bind fun aCD=>
  (n_ (aat=aat)).bind fun aCC=>
  (some (Tf.set (aat).toNat ({ayh with aap:=awA}))).bind fun awz=>
  some (.inl ((Ad (agH+1)),acT,agi,agd,aeK,agj,ahe,afI,ahf,agk,aec,afH,(Ad (acq+1)),(Ad (ach+1)),ahh,agh,ahi,afF,awB,aaB,awz))
 else
  some (.inr (acT,agi,agd,aeK,agj,ahe,afI,ahf,agk,aec,afH,acq,ach,ahh,agh,ahi,afF,af7,aaB,Tf)))
def H5 (a0:AH) (aat:Int) (ada:List (Int)) (ahl:List (Int)) (ahg:List (Bd)) (afG:List (AK)) (ahm:List (Cm)) (ah5:Int) (agl:Int) (ah6:Int) (ahn:Bool) (aeL:Int) (age:Int) (agf:Int) (aed:Int) (ah7:Int) (ahk:List (Int)) (ah8:Int) (agc:Int) (agV:List (Ar)) (acC:Int) (acE:List (Ay)):Option ((Int×(List (Int))×(List (Int))×(List (Bd))×(List (AK))×(List (Cm))×Int×Int×Int×Bool×Int×Int×Int×Int×Int×(List (Int))×Int×Int×(List (Ar))×Int×(List (Ay)))⊕(((List (Int))×(List (Int))×(List (Bd))×(List (AK))×(List (Cm))×Int×Int×Int×Bool×Int×Int×Int×Int×Int×(List (Int))×Int×Int×(List (Ar))×Int×(List (Ay))))):=
 (if(decide (aat<(a0.l_.length:Int))) then
  jn (fun(v:(List (Int))×(List (Int))×(List (Bd))×(List (AK))×(List (Cm))×Int×Int×Int×Bool×Int×Int×Int×Int×Int×(List (Int))×Int×Int×(List (Ar))×Int×(List (Ay)))=>cK aat v.1 v.2.1 v.2.2.1 v.2.2.2.1 v.2.2.2.2.1 v.2.2.2.2.2.1 v.2.2.2.2.2.2.1 v.2.2.2.2.2.2.2.1 v.2.2.2.2.2.2.2.2.1 v.2.2.2.2.2.2.2.2.2.1 v.2.2.2.2.2.2.2.2.2.2.1 v.2.2.2.2.2.2.2.2.2.2.2.1 v.2.2.2.2.2.2.2.2.2.2.2.2.1 v.2.2.2.2.2.2.2.2.2.2.2.2.2.1 v.2.2.2.2.2.2.2.2.2.2.2.2.2.2.1 v.2.2.2.2.2.2.2.2.2.2.2.2.2.2.2.1 v.2.2.2.2.2.2.2.2.2.2.2.2.2.2.2.2.1 v.2.2.2.2.2.2.2.2.2.2.2.2.2.2.2.2.2.1 v.2.2.2.2.2.2.2.2.2.2.2.2.2.2.2.2.2.2.1 v.2.2.2.2.2.2.2.2.2.2.2.2.2.2.2.2.2.2.2) (fun akX=>
  (idx a0.l_ aat).bind fun arb=>
  (DL ah7 arb).bind fun amA=>
  (iter (fun(v:Int×(List (Int))×(List (Int))×(List (Bd))×(List (AK))×(List (Cm))×Int×Int×Int×Bool×Int×Int×Int×Int×Int×(List (Int))×Int×Int×(List (Ar))×Int×(List (Ay)))=>GZ aat amA v.1 v.2.1 v.2.2.1 v.2.2.2.1 v.2.2.2.2.1 v.2.2.2.2.2.1 v.2.2.2.2.2.2.1 v.2.2.2.2.2.2.2.1 v.2.2.2.2.2.2.2.2.1 v.2.2.2.2.2.2.2.2.2.1 v.2.2.2.2.2.2.2.2.2.2.1 v.2.2.2.2.2.2.2.2.2.2.2.1 v.2.2.2.2.2.2.2.2.2.2.2.2.1 v.2.2.2.2.2.2.2.2.2.2.2.2.2.1 v.2.2.2.2.2.2.2.2.2.2.2.2.2.2.1 v.2.2.2.2.2.2.2.2.2.2.2.2.2.2.2.1 v.2.2.2.2.2.2.2.2.2.2.2.2.2.2.2.2.1 v.2.2.2.2.2.2.2.2.2.2.2.2.2.2.2.2.2.1 v.2.2.2.2.2.2.2.2.2.2.2.2.2.2.2.2.2.2.1 v.2.2.2.2.2.2.2.2.2.2.2.2.2.2.2.2.2.2.2.1 v.2.2.2.2.2.2.2.2.2.2.2.2.2.2.2.2.2.2.2.2) FU ((0:Int),ada,ahl,ahg,afG,ahm,ah5,agl,ah6,ahn,aeL,age,agf,aed,amA.2,ahk,ah8,agc,agV,acC,acE)).bind (fun o0=>akX (o0.1,o0.2.1,o0.2.2.1,o0.2.2.2.1,o0.2.2.2.2.1,o0.2.2.2.2.2.1,o0.2.2.2.2.2.2.1,o0.2.2.2.2.2.2.2.1,o0.2.2.2.2.2.2.2.2.1,o0.2.2.2.2.2.2.2.2.2.1,o0.2.2.2.2.2.2.2.2.2.2.1,o0.2.2.2.2.2.2.2.2.2.2.2.1,o0.2.2.2.2.2.2.2.2.2.2.2.2.1,o0.2.2.2.2.2.2.2.2.2.2.2.2.2.1,o0.2.2.2.2.2.2.2.2.2.2.2.2.2.2.1,o0.2.2.2.2.2.2.2.2.2.2.2.2.2.2.2.1,o0.2.2.2.2.2.2.2.2.2.2.2.2.2.2.2.2.1,o0.2.2.2.2.2.2.2.2.2.2.2.2.2.2.2.2.2.1,o0.2.2.2.2.2.2.2.2.2.2.2.2.2.2.2.2.2.2.1,o0.2.2.2.2.2.2.2.2.2.2.2.2.2.2.2.2.2.2.2)))
 else
  some (.inr (ada,ahl,ahg,afG,ahm,ah5,agl,ah6,ahn,aeL,age,agf,aed,ah7,ahk,ah8,agc,agV,acC,acE)))
def HM (a0:AH):Option (Ao×Int):=
 (Ln a0).bind fun r1=>
 (if r1 != 0 then
  some ((⟨([]:List (Ay)),([]:List (Ar)),([]:List (Int)),([]:List (Int)),([]:List (Bd)),([]:List (AK)),([]:List (Cm)),0,0,0,false,0,0,0,0,0,([]:List (Int)),0,0⟩:Ao),r1)
 else
  (VC (a0.l_.length:Int) a0.aaO a0.adH).bind fun r3=>
  jn (fun(v:(List (Int))×(List (Int))×(List (Bd))×(List (AK))×(List (Cm))×Int×Int×Int×Bool×Int×Int×Int×Int×Int×(List (Int))×Int×Int×(List (Ar))×Int×(List (Ay)))=>eJ v.1 v.2.1 v.2.2.1 v.2.2.2.1 v.2.2.2.2.1 v.2.2.2.2.2.1 v.2.2.2.2.2.2.1 v.2.2.2.2.2.2.2.1 v.2.2.2.2.2.2.2.2.1 v.2.2.2.2.2.2.2.2.2.1 v.2.2.2.2.2.2.2.2.2.2.1 v.2.2.2.2.2.2.2.2.2.2.2.1 v.2.2.2.2.2.2.2.2.2.2.2.2.1 v.2.2.2.2.2.2.2.2.2.2.2.2.2.1 v.2.2.2.2.2.2.2.2.2.2.2.2.2.2.1 v.2.2.2.2.2.2.2.2.2.2.2.2.2.2.2.1 v.2.2.2.2.2.2.2.2.2.2.2.2.2.2.2.2.1 v.2.2.2.2.2.2.2.2.2.2.2.2.2.2.2.2.2.1 v.2.2.2.2.2.2.2.2.2.2.2.2.2.2.2.2.2.2.1 v.2.2.2.2.2.2.2.2.2.2.2.2.2.2.2.2.2.2.2) (fun awU=>
  (iter (fun(v:Int×(List (Int))×(List (Int))×(List (Bd))×(List (AK))×(List (Cm))×Int×Int×Int×Bool×Int×Int×Int×Int×Int×(List (Int))×Int×Int×(List (Ar))×Int×(List (Ay)))=>H5 a0 v.1 v.2.1 v.2.2.1 v.2.2.2.1 v.2.2.2.2.1 v.2.2.2.2.2.1 v.2.2.2.2.2.2.1 v.2.2.2.2.2.2.2.1 v.2.2.2.2.2.2.2.2.1 v.2.2.2.2.2.2.2.2.2.1 v.2.2.2.2.2.2.2.2.2.2.1 v.2.2.2.2.2.2.2.2.2.2.2.1 v.2.2.2.2.2.2.2.2.2.2.2.2.1 v.2.2.2.2.2.2.2.2.2.2.2.2.2.1 v.2.2.2.2.2.2.2.2.2.2.2.2.2.2.1 v.2.2.2.2.2.2.2.2.2.2.2.2.2.2.2.1 v.2.2.2.2.2.2.2.2.2.2.2.2.2.2.2.2.1 v.2.2.2.2.2.2.2.2.2.2.2.2.2.2.2.2.2.1 v.2.2.2.2.2.2.2.2.2.2.2.2.2.2.2.2.2.2.1 v.2.2.2.2.2.2.2.2.2.2.2.2.2.2.2.2.2.2.2.1 v.2.2.2.2.2.2.2.2.2.2.2.2.2.2.2.2.2.2.2.2) FU ((0:Int),r3.aaP,r3.agm,r3.Stack,r3.acU,r3.agn,r3.abb,r3.abK,r3.Step,r3.aeg,r3.Priority,r3.Passes,r3.acJ,r3.aaW,r3.adH,r3.Extra,r3.ahQ,r3.acZ,r3.j_,((r3.m_.length:Nat):Int),r3.m_)).bind (fun o0=>awU (o0.1,o0.2.1,o0.2.2.1,o0.2.2.2.1,o0.2.2.2.2.1,o0.2.2.2.2.2.1,o0.2.2.2.2.2.2.1,o0.2.2.2.2.2.2.2.1,o0.2.2.2.2.2.2.2.2.1,o0.2.2.2.2.2.2.2.2.2.1,o0.2.2.2.2.2.2.2.2.2.2.1,o0.2.2.2.2.2.2.2.2.2.2.2.1,o0.2.2.2.2.2.2.2.2.2.2.2.2.1,o0.2.2.2.2.2.2.2.2.2.2.2.2.2.1,o0.2.2.2.2.2.2.2.2.2.2.2.2.2.2.1,o0.2.2.2.2.2.2.2.2.2.2.2.2.2.2.2.1,o0.2.2.2.2.2.2.2.2.2.2.2.2.2.2.2.2.1,o0.2.2.2.2.2.2.2.2.2.2.2.2.2.2.2.2.2.1,o0.2.2.2.2.2.2.2.2.2.2.2.2.2.2.2.2.2.2.1,o0.2.2.2.2.2.2.2.2.2.2.2.2.2.2.2.2.2.2.2))))
def Xp:CE TE Tryz.prog I0:=AA [eH,m6,Pn,TJ] Aa Ac 9 7 Tryz.f7 (Tryz.f7.body.getD .skip) (.s .n (.s .n (.s (.r [] [] (.q 7 .co .n)) (.j ⟨[2,5],[],[[2]],[([5], .box [.c (.h_ [1000003,0,0,24]), .c (.h_ [1,0,24]), .v (.k (.u_ 3)), .v (.k (.u_ 3)), .v (.k (.u_ 109)), .v (.k (.u_ 112)), .v (.k (.u_ 115)), .v (.k (.int .i64)), .v (.k (.int .i64)), .v (.k (.int .i64)), .v (.k (.bool)), .v (.k (.int .i64)), .v (.k (.int .i64)), .v (.k (.int .i64)), .v (.k (.int .i64)), .v (.k (.int .u64)), .v (.k (.u_ 3)), .v (.k (.int .i64)), .v (.k (.int .i64))]),([1,0,24], .row 66),([1000003,0,0,24], .deep 59)]⟩ (.s .n (.l ⟨[2,5,26,27],[(28, .c (.v (.k (.int .i64))))],[[2]],[([5], .box [.c (.h_ [1000003,0,0,24]), .c (.h_ [1,0,24]), .v (.k (.u_ 3)), .v (.k (.u_ 3)), .v (.k (.u_ 109)), .v (.k (.u_ 112)), .v (.k (.u_ 115)), .v (.k (.int .i64)), .v (.k (.int .i64)), .v (.k (.int .i64)), .v (.k (.bool)), .v (.k (.int .i64)), .v (.k (.int .i64)), .v (.k (.int .i64)), .v (.k (.int .i64)), .v (.k (.int .u64)), .v (.k (.u_ 3)), .v (.k (.int .i64)), .v (.k (.int .i64))]),([1,0,24], .row 66),([1000003,0,0,24], .deep 59)]⟩ [(1,⟨[2,5],[],[[2]],[([5], .box [.c (.h_ [1000003,0,0,24]), .c (.h_ [1,0,24]), .v (.k (.u_ 3)), .v (.k (.u_ 3)), .v (.k (.u_ 109)), .v (.k (.u_ 112)), .v (.k (.u_ 115)), .v (.k (.int .i64)), .v (.k (.int .i64)), .v (.k (.int .i64)), .v (.k (.bool)), .v (.k (.int .i64)), .v (.k (.int .i64)), .v (.k (.int .i64)), .v (.k (.int .i64)), .v (.k (.int .u64)), .v (.k (.u_ 3)), .v (.k (.int .i64)), .v (.k (.int .i64))]),([1,0,24], .row 66),([1000003,0,0,24], .deep 59)]⟩)] (.s .n (.s .n (.j ⟨[2,5,26,27,28],[],[[2]],[([5], .box [.c (.h_ [1000003,0,0,24]), .c (.h_ [1,0,24]), .v (.k (.u_ 3)), .v (.k (.u_ 3)), .v (.k (.u_ 109)), .v (.k (.u_ 112)), .v (.k (.u_ 115)), .v (.k (.int .i64)), .v (.k (.int .i64)), .v (.k (.int .i64)), .v (.k (.bool)), .v (.k (.int .i64)), .v (.k (.int .i64)), .v (.k (.int .i64)), .v (.k (.int .i64)), .v (.k (.int .u64)), .v (.k (.u_ 3)), .v (.k (.int .i64)), .v (.k (.int .i64))]),([1,0,24], .row 66),([1000003,0,0,24], .deep 59)]⟩ (.s .n (.s .n (.s .n (.s .n (.l ⟨[2,5,6,26,27,28,41,42],[(43, .c (.v (.k (.int .i64))))],[[2]],[([5], .box [.c (.h_ [1000003,0,0,24]), .c (.h_ [1,0,24]), .v (.k (.u_ 3)), .v (.k (.u_ 3)), .v (.k (.u_ 109)), .v (.k (.u_ 112)), .v (.k (.u_ 115)), .v (.k (.int .i64)), .v (.k (.int .i64)), .v (.k (.int .i64)), .v (.k (.bool)), .v (.k (.int .i64)), .v (.k (.int .i64)), .v (.k (.int .i64)), .v (.k (.int .i64)), .v (.k (.int .u64)), .v (.k (.u_ 3)), .v (.k (.int .i64)), .v (.k (.int .i64))]),([1,0,24], .row 66),([1000003,0,0,24], .deep 59)]⟩ [(3,⟨[2,5,26,27,28],[],[[2]],[([5], .box [.c (.h_ [1000003,0,0,24]), .c (.h_ [1,0,24]), .v (.k (.u_ 3)), .v (.k (.u_ 3)), .v (.k (.u_ 109)), .v (.k (.u_ 112)), .v (.k (.u_ 115)), .v (.k (.int .i64)), .v (.k (.int .i64)), .v (.k (.int .i64)), .v (.k (.bool)), .v (.k (.int .i64)), .v (.k (.int .i64)), .v (.k (.int .i64)), .v (.k (.int .i64)), .v (.k (.int .u64)), .v (.k (.u_ 3)), .v (.k (.int .i64)), .v (.k (.int .i64))]),([1,0,24], .row 66),([1000003,0,0,24], .deep 59)]⟩)] (.s .n (.s .n (.s (.s .n (.s (.r [] [] (.t (.q 1 .lz .n))) (.s (.r [] [] (.t (.q 8 .au (.q 15 .au .n)))) .n))) .n)))))))) .n))))) (.s (.r [] [] (.g 0 (.fd [1000003,0,0,24]) .n)) .n))))) [.s 26] [.s 36, .k (.int .i64)] (fun x=>HM x.1) Tryz.func7 rfl (by kernel_rfl)
def Up:Option (Int×Int):=
 some ((-1:Int),(0:Int))
def E7 (a0:List (AO)) (adn:Int):Option ((Int)⊕(Unit⊕(Int×Int))):=
 (if(decide (adn<(a0.length:Int))) then
  (idx a0 adn).bind fun e9=>
  (V2 e9).bind fun r10=>
  (if !r10 then
   some (.inr (.inr (adn,(9:Int))))
  else
   (idx a0 adn).bind fun e12=>
   (TR a0 e12.Name).bind fun r13=>
   (if decide (r13<adn) then
    some (.inr (.inr (adn,(6:Int))))
   else
    (idx a0 adn).bind fun e15=>
    (Lk a0 e15).bind fun r16=>
    (if !r16 then
     some (.inr (.inr (adn,(7:Int))))
    else
     some (.inl (Ad (adn+1))))))
 else
  some (.inr (.inl ())))
def MD (a0:List (AO)):Option (Int×Int):=
 (if(decide (256<(a0.length:Int))) then
  some ((-1:Int),(5:Int))
 else
  jn (fun(v:Unit)=>Up) (fun K_=>
  (iter (fun(v:Int)=>E7 a0 v) FU (0:Int)).bind (Sum.elim (fun o0=>K_ ()) (fun o1=>some (o1.1,o1.2)))))
def nP:CE TE Tryz.prog I0:=AA [yo,qV,dY] Aa Ac 9 10 Tryz.f10 (Tryz.f10.body.getD .skip) (.s .n (.s .n (.j ⟨[],[],[],[]⟩ (.s .n (.l ⟨[0],[(4, .c (.v (.k (.int .i64))))],[],[]⟩ [(1,⟨[],[],[],[]⟩),(0,⟨[],[(2, .c (.v (.k (.int .i64)))),(3, .c (.v (.k (.int .i64))))],[],[]⟩)] .n)) .n))) [.k (.u_ 51)] [.k (.int .i64), .k (.int .i64)] (fun x=>MD x.1) Tryz.func10 rfl (by kernel_rfl)
end Go.PL
