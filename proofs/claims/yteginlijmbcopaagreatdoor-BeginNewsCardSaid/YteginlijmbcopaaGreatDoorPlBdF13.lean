/- Functions of the program, as partial functions in Lean, with proofs. -/
import Derived.Test.YteginlijmbcopaaGreatDoorPlBdB
import Derived.Test.YteginlijmbcopaaGreatDoorPlBdF0
import Derived.Test.YteginlijmbcopaaGreatDoorPlBdF1
import Derived.Test.YteginlijmbcopaaGreatDoorPlBdF12
import Derived.Test.YteginlijmbcopaaGreatDoorPlBdF2
import Derived.Test.YteginlijmbcopaaGreatDoorPlBdF3
namespace Go.PL
open Go Go.RowKit Go.Proofs
set_option maxRecDepth 100000
set_option linter.all false
set_option maxHeartbeats 4000000
attribute [local irreducible] Ae Cq Cl
def eF (acQ:List (Int)) (ahd:List (Int)) (aha:List (AK)) (afb:List (Ax)) (ahe:List (Bn)) (aio:Int) (afg:Int) (ag_:Int) (age:Bool) (adJ:Int) (afc:Int) (afd:Int) (adn:Int) (ahb:Int) (aga:List (Int)) (ahc:Int) (afa:Int) (aln:List (Am)) (alh:Int) (afX:List (Al)):Option (Ai×Int):=
 some ((⟨afX,aln,acQ,ahd,aha,afb,ahe,aio,afg,ag_,age,adJ,afc,afd,adn,ahb,aga,ahc,afa⟩:Ai),(0:Int))
def cS (aaq:Int) (acj:List (Int)) (agb:List (Int)) (af8:List (AK)) (aei:List (Ax)) (agc:List (Bn)) (ag8:Int) (aff:Int) (ag9:Int) (agd:Bool) (adI:Int) (aej:Int) (aek:Int) (acP:Int) (af9:Int) (afe:List (Int)) (af_:Int) (aeh:Int) (aj7:List (Am)) (afx:Int) (afz:List (Al)):Option ((Int×(List (Int))×(List (Int))×(List (AK))×(List (Ax))×(List (Bn))×Int×Int×Int×Bool×Int×Int×Int×Int×Int×(List (Int))×Int×Int×(List (Am))×Int×(List (Al)))⊕(((List (Int))×(List (Int))×(List (AK))×(List (Ax))×(List (Bn))×Int×Int×Int×Bool×Int×Int×Int×Int×Int×(List (Int))×Int×Int×(List (Am))×Int×(List (Al))))):=
 some (.inl ((Aa (aaq+1)),acj,agb,af8,aei,agc,ag8,aff,ag9,agd,adI,aej,aek,acP,af9,afe,af_,aeh,aj7,afx,afz))
def Dy (aaq:Int) (ahT:(List (Int))×Int) (ahK:Int) (aau:List (Int)) (acI:List (Int)) (acE:List (AK)) (abt:List (Ax)) (acJ:List (Bn)) (adi:Int) (ab1:Int) (adj:Int) (acK:Bool) (abe:Int) (ab0:Int) (Z_:Int) (Y_:Int) (adl:Int) (acH:List (Int)) (adm:Int) (abY:Int) (ahj:List (Am)) (aaB:Int) (Ta:List (Al)):Option ((Int×(List (Int))×(List (Int))×(List (AK))×(List (Ax))×(List (Bn))×Int×Int×Int×Bool×Int×Int×Int×Int×Int×(List (Int))×Int×Int×(List (Am))×Int×(List (Al)))⊕(((List (Int))×(List (Int))×(List (AK))×(List (Ax))×(List (Bn))×Int×Int×Int×Bool×Int×Int×Int×Int×Int×(List (Int))×Int×Int×(List (Am))×Int×(List (Al))))):=
 (if(decide (ahK<(ahT.1.length:Int))) then
  (idx ahT.1 ahK).bind fun amT=>
  (RZ Z_ amT aaq (2:Int) Y_).bind fun arB=>
  (app 128 ahj ([arB]:List (Am))).bind fun arS=>
  (idx Ta aaq).bind fun aAe=>
  (idx Ta aaq).bind fun asu=>
  (k_ (aaq<aaB)).bind fun axE=>
  (app 8 asu.S_ ([Z_]:List (Int))).bind fun arR=>
  (idx Ta aaq).bind fun avG=>
  (idx Ta aaq).bind fun ast=>
  (k_ (aaq<aaB)).bind fun axD=>
  (k_ (aaq=aaq)).bind fun axC=>
  (some (Ta.set (aaq).toNat ({ast with S_:=arR}))).bind fun arQ=>
  some (.inl ((Aa (ahK+1)),aau,acI,acE,abt,acJ,adi,ab1,adj,acK,abe,ab0,(Aa (Z_+1)),(Aa (Y_+1)),adl,acH,adm,abY,arS,aaB,arQ))
 else
  some (.inr (aau,acI,acE,abt,acJ,adi,ab1,adj,acK,abe,ab0,Z_,Y_,adl,acH,adm,abY,ahj,aaB,Ta)))
def D4 (a0:AA) (aaq:Int) (aaF:List (Int)) (adp:List (Int)) (adk:List (AK)) (abZ:List (Ax)) (adq:List (Bn)) (adV:Int) (acL:Int) (adW:Int) (adr:Bool) (abu:Int) (acF:Int) (acG:Int) (abf:Int) (adX:Int) (ado:List (Int)) (adY:Int) (acD:Int) (ah0:List (Am)) (ac8:Int) (ada:List (Al)):Option ((Int×(List (Int))×(List (Int))×(List (AK))×(List (Ax))×(List (Bn))×Int×Int×Int×Bool×Int×Int×Int×Int×Int×(List (Int))×Int×Int×(List (Am))×Int×(List (Al)))⊕(((List (Int))×(List (Int))×(List (AK))×(List (Ax))×(List (Bn))×Int×Int×Int×Bool×Int×Int×Int×Int×Int×(List (Int))×Int×Int×(List (Am))×Int×(List (Al))))):=
 (if(decide (aaq<(a0.i_.length:Int))) then
  jn (fun(v:(List (Int))×(List (Int))×(List (AK))×(List (Ax))×(List (Bn))×Int×Int×Int×Bool×Int×Int×Int×Int×Int×(List (Int))×Int×Int×(List (Am))×Int×(List (Al)))=>cS aaq v.1 v.2.1 v.2.2.1 v.2.2.2.1 v.2.2.2.2.1 v.2.2.2.2.2.1 v.2.2.2.2.2.2.1 v.2.2.2.2.2.2.2.1 v.2.2.2.2.2.2.2.2.1 v.2.2.2.2.2.2.2.2.2.1 v.2.2.2.2.2.2.2.2.2.2.1 v.2.2.2.2.2.2.2.2.2.2.2.1 v.2.2.2.2.2.2.2.2.2.2.2.2.1 v.2.2.2.2.2.2.2.2.2.2.2.2.2.1 v.2.2.2.2.2.2.2.2.2.2.2.2.2.2.1 v.2.2.2.2.2.2.2.2.2.2.2.2.2.2.2.1 v.2.2.2.2.2.2.2.2.2.2.2.2.2.2.2.2.1 v.2.2.2.2.2.2.2.2.2.2.2.2.2.2.2.2.2.1 v.2.2.2.2.2.2.2.2.2.2.2.2.2.2.2.2.2.2.1 v.2.2.2.2.2.2.2.2.2.2.2.2.2.2.2.2.2.2.2) (fun ai2=>
  (idx a0.i_ aaq).bind fun aop=>
  (CP adX aop).bind fun ahT=>
  (iter (fun(v:Int×(List (Int))×(List (Int))×(List (AK))×(List (Ax))×(List (Bn))×Int×Int×Int×Bool×Int×Int×Int×Int×Int×(List (Int))×Int×Int×(List (Am))×Int×(List (Al)))=>Dy aaq ahT v.1 v.2.1 v.2.2.1 v.2.2.2.1 v.2.2.2.2.1 v.2.2.2.2.2.1 v.2.2.2.2.2.2.1 v.2.2.2.2.2.2.2.1 v.2.2.2.2.2.2.2.2.1 v.2.2.2.2.2.2.2.2.2.1 v.2.2.2.2.2.2.2.2.2.2.1 v.2.2.2.2.2.2.2.2.2.2.2.1 v.2.2.2.2.2.2.2.2.2.2.2.2.1 v.2.2.2.2.2.2.2.2.2.2.2.2.2.1 v.2.2.2.2.2.2.2.2.2.2.2.2.2.2.1 v.2.2.2.2.2.2.2.2.2.2.2.2.2.2.2.1 v.2.2.2.2.2.2.2.2.2.2.2.2.2.2.2.2.1 v.2.2.2.2.2.2.2.2.2.2.2.2.2.2.2.2.2.1 v.2.2.2.2.2.2.2.2.2.2.2.2.2.2.2.2.2.2.1 v.2.2.2.2.2.2.2.2.2.2.2.2.2.2.2.2.2.2.2.1 v.2.2.2.2.2.2.2.2.2.2.2.2.2.2.2.2.2.2.2.2) FU ((0:Int),aaF,adp,adk,abZ,adq,adV,acL,adW,adr,abu,acF,acG,abf,ahT.2,ado,adY,acD,ah0,ac8,ada)).bind (fun o0=>ai2 (o0.1,o0.2.1,o0.2.2.1,o0.2.2.2.1,o0.2.2.2.2.1,o0.2.2.2.2.2.1,o0.2.2.2.2.2.2.1,o0.2.2.2.2.2.2.2.1,o0.2.2.2.2.2.2.2.2.1,o0.2.2.2.2.2.2.2.2.2.1,o0.2.2.2.2.2.2.2.2.2.2.1,o0.2.2.2.2.2.2.2.2.2.2.2.1,o0.2.2.2.2.2.2.2.2.2.2.2.2.1,o0.2.2.2.2.2.2.2.2.2.2.2.2.2.1,o0.2.2.2.2.2.2.2.2.2.2.2.2.2.2.1,o0.2.2.2.2.2.2.2.2.2.2.2.2.2.2.2.1,o0.2.2.2.2.2.2.2.2.2.2.2.2.2.2.2.2.1,o0.2.2.2.2.2.2.2.2.2.2.2.2.2.2.2.2.2.1,o0.2.2.2.2.2.2.2.2.2.2.2.2.2.2.2.2.2.2.1,o0.2.2.2.2.2.2.2.2.2.2.2.2.2.2.2.2.2.2.2)))
 else
  some (.inr (aaF,adp,adk,abZ,adq,adV,acL,adW,adr,abu,acF,acG,abf,adX,ado,adY,acD,ah0,ac8,ada)))
def Dz (a0:AA):Option (Ai×Int):=
 (IK a0).bind fun r1=>
 (if r1 != 0 then
  some ((⟨([]:List (Al)),([]:List (Am)),([]:List (Int)),([]:List (Int)),([]:List (AK)),([]:List (Ax)),([]:List (Bn)),0,0,0,false,0,0,0,0,0,([]:List (Int)),0,0⟩:Ai),r1)
 else
  (VP (a0.i_.length:Int) a0.aaX a0.adt).bind fun r3=>
  jn (fun(v:(List (Int))×(List (Int))×(List (AK))×(List (Ax))×(List (Bn))×Int×Int×Int×Bool×Int×Int×Int×Int×Int×(List (Int))×Int×Int×(List (Am))×Int×(List (Al)))=>eF v.1 v.2.1 v.2.2.1 v.2.2.2.1 v.2.2.2.2.1 v.2.2.2.2.2.1 v.2.2.2.2.2.2.1 v.2.2.2.2.2.2.2.1 v.2.2.2.2.2.2.2.2.1 v.2.2.2.2.2.2.2.2.2.1 v.2.2.2.2.2.2.2.2.2.2.1 v.2.2.2.2.2.2.2.2.2.2.2.1 v.2.2.2.2.2.2.2.2.2.2.2.2.1 v.2.2.2.2.2.2.2.2.2.2.2.2.2.1 v.2.2.2.2.2.2.2.2.2.2.2.2.2.2.1 v.2.2.2.2.2.2.2.2.2.2.2.2.2.2.2.1 v.2.2.2.2.2.2.2.2.2.2.2.2.2.2.2.2.1 v.2.2.2.2.2.2.2.2.2.2.2.2.2.2.2.2.2.1 v.2.2.2.2.2.2.2.2.2.2.2.2.2.2.2.2.2.2.1 v.2.2.2.2.2.2.2.2.2.2.2.2.2.2.2.2.2.2.2) (fun arV=>
  (iter (fun(v:Int×(List (Int))×(List (Int))×(List (AK))×(List (Ax))×(List (Bn))×Int×Int×Int×Bool×Int×Int×Int×Int×Int×(List (Int))×Int×Int×(List (Am))×Int×(List (Al)))=>D4 a0 v.1 v.2.1 v.2.2.1 v.2.2.2.1 v.2.2.2.2.1 v.2.2.2.2.2.1 v.2.2.2.2.2.2.1 v.2.2.2.2.2.2.2.1 v.2.2.2.2.2.2.2.2.1 v.2.2.2.2.2.2.2.2.2.1 v.2.2.2.2.2.2.2.2.2.2.1 v.2.2.2.2.2.2.2.2.2.2.2.1 v.2.2.2.2.2.2.2.2.2.2.2.2.1 v.2.2.2.2.2.2.2.2.2.2.2.2.2.1 v.2.2.2.2.2.2.2.2.2.2.2.2.2.2.1 v.2.2.2.2.2.2.2.2.2.2.2.2.2.2.2.1 v.2.2.2.2.2.2.2.2.2.2.2.2.2.2.2.2.1 v.2.2.2.2.2.2.2.2.2.2.2.2.2.2.2.2.2.1 v.2.2.2.2.2.2.2.2.2.2.2.2.2.2.2.2.2.2.1 v.2.2.2.2.2.2.2.2.2.2.2.2.2.2.2.2.2.2.2.1 v.2.2.2.2.2.2.2.2.2.2.2.2.2.2.2.2.2.2.2.2) FU ((0:Int),r3.Td,r3.aet,r3.Stack,r3.abm,r3.ad0,r3.aaT,r3.abi,r3.Step,r3.adC,r3.Priority,r3.Passes,r3.ab2,r3.aaj,r3.adt,r3.Extra,r3.ahi,r3.ack,r3.d_,((r3.g_.length:Nat):Int),r3.g_)).bind (fun o0=>arV (o0.1,o0.2.1,o0.2.2.1,o0.2.2.2.1,o0.2.2.2.2.1,o0.2.2.2.2.2.1,o0.2.2.2.2.2.2.1,o0.2.2.2.2.2.2.2.1,o0.2.2.2.2.2.2.2.2.1,o0.2.2.2.2.2.2.2.2.2.1,o0.2.2.2.2.2.2.2.2.2.2.1,o0.2.2.2.2.2.2.2.2.2.2.2.1,o0.2.2.2.2.2.2.2.2.2.2.2.2.1,o0.2.2.2.2.2.2.2.2.2.2.2.2.2.1,o0.2.2.2.2.2.2.2.2.2.2.2.2.2.2.1,o0.2.2.2.2.2.2.2.2.2.2.2.2.2.2.2.1,o0.2.2.2.2.2.2.2.2.2.2.2.2.2.2.2.2.1,o0.2.2.2.2.2.2.2.2.2.2.2.2.2.2.2.2.2.1,o0.2.2.2.2.2.2.2.2.2.2.2.2.2.2.2.2.2.2.1,o0.2.2.2.2.2.2.2.2.2.2.2.2.2.2.2.2.2.2.2))))
def XI:Bb:=mC [eE,oH,PA,TY] 8 Tryz.f8 (.s .n (.s .n (.s (.r [] [] (.q 7 .co .n)) (.j ⟨[2,5],[],[[2]],[([5], .box [.c (.e_ [1000003,0,0,24]), .c (.e_ [1,0,24]), .v (.k (.l_ 3)), .v (.k (.l_ 3)), .v (.k (.l_ 126)), .v (.k (.l_ 129)), .v (.k (.l_ 132)),AF,AF,AF,Lk,AF,AF,AF,AF, .v (.k (.int .u64)), .v (.k (.l_ 3)),AF,AF]),([1,0,24], .row 70),([1000003,0,0,24], .deep 61)]⟩ (.s .n (.l ⟨[2,5,26,27],[Bd 28],[[2]],[([5], .box [.c (.e_ [1000003,0,0,24]), .c (.e_ [1,0,24]), .v (.k (.l_ 3)), .v (.k (.l_ 3)), .v (.k (.l_ 126)), .v (.k (.l_ 129)), .v (.k (.l_ 132)),AF,AF,AF,Lk,AF,AF,AF,AF, .v (.k (.int .u64)), .v (.k (.l_ 3)),AF,AF]),([1,0,24], .row 70),([1000003,0,0,24], .deep 61)]⟩ [(1,⟨[2,5],[],[[2]],[([5], .box [.c (.e_ [1000003,0,0,24]), .c (.e_ [1,0,24]), .v (.k (.l_ 3)), .v (.k (.l_ 3)), .v (.k (.l_ 126)), .v (.k (.l_ 129)), .v (.k (.l_ 132)),AF,AF,AF,Lk,AF,AF,AF,AF, .v (.k (.int .u64)), .v (.k (.l_ 3)),AF,AF]),([1,0,24], .row 70),([1000003,0,0,24], .deep 61)]⟩)] (.s .n (.s .n (.j ⟨[2,5,26,27,28],[],[[2]],[([5], .box [.c (.e_ [1000003,0,0,24]), .c (.e_ [1,0,24]), .v (.k (.l_ 3)), .v (.k (.l_ 3)), .v (.k (.l_ 126)), .v (.k (.l_ 129)), .v (.k (.l_ 132)),AF,AF,AF,Lk,AF,AF,AF,AF, .v (.k (.int .u64)), .v (.k (.l_ 3)),AF,AF]),([1,0,24], .row 70),([1000003,0,0,24], .deep 61)]⟩ (.s .n (.s .n (.s .n (.s .n (.l ⟨[2,5,6,26,27,28,41,42],[Bd 43],[[2]],[([5], .box [.c (.e_ [1000003,0,0,24]), .c (.e_ [1,0,24]), .v (.k (.l_ 3)), .v (.k (.l_ 3)), .v (.k (.l_ 126)), .v (.k (.l_ 129)), .v (.k (.l_ 132)),AF,AF,AF,Lk,AF,AF,AF,AF, .v (.k (.int .u64)), .v (.k (.l_ 3)),AF,AF]),([1,0,24], .row 70),([1000003,0,0,24], .deep 61)]⟩ [(3,⟨[2,5,26,27,28],[],[[2]],[([5], .box [.c (.e_ [1000003,0,0,24]), .c (.e_ [1,0,24]), .v (.k (.l_ 3)), .v (.k (.l_ 3)), .v (.k (.l_ 126)), .v (.k (.l_ 129)), .v (.k (.l_ 132)),AF,AF,AF,Lk,AF,AF,AF,AF, .v (.k (.int .u64)), .v (.k (.l_ 3)),AF,AF]),([1,0,24], .row 70),([1000003,0,0,24], .deep 61)]⟩)] (.s .n (.s .n (.s (.s .n (.s (.r [] [] (.t (.q 1 .lz .n))) (.s (.r [] [] (.t (.q 8 .au (.q 15 .au .n)))) .n))) .n)))))))) .n))))) (.s (.r [] [] (.g 0 (.fd [1000003,0,0,24]) .n)) .n))))) [.s 26] [.s 36, .k (.int .i64)] (fun x=>Dz x.1) Tryz.func8 (by kernel_rfl)
def UE:Option (Int×Int):=
 some ((-1:Int),(0:Int))
def He (a0:List (AO)) (aea:Int):Option ((Int)⊕(Unit⊕(Int×Int))):=
 (if(decide (aea<(a0.length:Int))) then
  (idx a0 aea).bind fun e9=>
  (Wi e9).bind fun r10=>
  (if !r10 then
   some (.inr (.inr (aea,(9:Int))))
  else
   (idx a0 aea).bind fun e12=>
   (T7 a0 e12.Name).bind fun r13=>
   (if decide (r13<aea) then
    some (.inr (.inr (aea,(6:Int))))
   else
    (idx a0 aea).bind fun e15=>
    (Ly a0 e15).bind fun r16=>
    (if !r16 then
     some (.inr (.inr (aea,(7:Int))))
    else
     some (.inl (Aa (aea+1))))))
 else
  some (.inr (.inl ())))
def MS (a0:List (AO)):Option (Int×Int):=
 (if(decide (256<(a0.length:Int))) then
  some ((-1:Int),(5:Int))
 else
  jn (fun(v:Unit)=>UE) (fun H_=>
  (iter (fun(v:Int)=>He a0 v) FU (0:Int)).bind (Sum.elim (fun o0=>H_ ()) (fun o1=>some (o1.1,o1.2)))))
def px:Bb:=mC [Aag,sH,dQ] 31 Tryz.f31 (.s .n (.s .n (.j IT (.s .n (.l ⟨[0],[Bd 4],[],[]⟩ [(1,IT),(0,⟨[],[Bd 2,Bd 3],[],[]⟩)] .n)) .n))) [.k (.l_ 102)] [.k (.int .i64), .k (.int .i64)] (fun x=>MS x.1) Tryz.func31 (by kernel_rfl)
end Go.PL
