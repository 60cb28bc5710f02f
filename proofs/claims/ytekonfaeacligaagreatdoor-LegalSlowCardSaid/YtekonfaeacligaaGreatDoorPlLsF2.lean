/- Functions of the program, as partial functions in Lean, with proofs. -/
import Derived.Test.YtekonfaeacligaaGreatDoorPlLsB
import Derived.Test.YtekonfaeacligaaGreatDoorPlLsF0
import Derived.Test.YtekonfaeacligaaGreatDoorPlLsF1
namespace Go.PL
open Go Go.RowKit Go.Proofs
set_option maxRecDepth 100000
set_option linter.all false
set_option maxHeartbeats 4000000
attribute [local irreducible] Ak BW BI
def O4:Option (Bool):=
 some true
def Iy (a0:AB) (aar:Int):Option ((Int)⊕(Unit⊕Bool)):=
 (if(decide (aar<(a0.aam.length:Int))) then
  (idx a0.aam aar).bind fun e15=>
  (if(decide (100<(e15.Filter.Sub.length:Int))) then
   some (.inr (.inr false))
  else
   some (.inl (Aj (aar+1))))
 else
  some (.inr (.inl ())))
def JU (a0:AB):Option (Bool):=
 jn (fun(v:Unit)=>O4) (fun jJ9=>
 (iter (fun(v:Int)=>Iy a0 v) FU (0:Int)).bind (Sum.elim (fun o0=>jJ9 ()) (fun o1=>some o1)))
def Iz (a0:AB) (adg:Int):Option ((Int)⊕(Unit⊕Bool)):=
 (if(decide (adg<(a0.N_.length:Int))) then
  (idx a0.N_ adg).bind fun e22=>
  (gd ((decide (100<(e22.Sub.length:Int)))==false) (idx a0.N_ adg)).bind fun e23=>
  (some (if(decide (100<(e22.Sub.length:Int))) then true else decide (100<(e23.Filter.Sub.length:Int)))).bind fun b24=>
  (if b24 then
   some (.inr (.inr false))
  else
   some (.inl (Aj (adg+1))))
 else
  some (.inr (.inl ())))
def Ff (a0:AB):Option (Bool):=
 (some (if(decide (100<(a0.Filter.Sub.length:Int))) then true else decide (20<(a0.N_.length:Int)))).bind fun b1=>
 (some (if b1 then true else decide (100<(a0.aby.Filter.Sub.length:Int)))).bind fun b2=>
 (some (if b2 then true else decide (20<(a0.aam.length:Int)))).bind fun b3=>
 (some (if b3 then true else decide (100<(a0.Replace.Filter.Sub.length:Int)))).bind fun b4=>
 (gd (b4==false) (Fm a0.B_)).bind fun r5=>
 (some (if b4 then true else !r5)).bind fun b6=>
 (if b6 then
  some false
 else
  jn (fun(v:Unit)=>JU a0) (fun jJ8=>
  (iter (fun(v:Int)=>Iz a0 v) FU (0:Int)).bind (Sum.elim (fun o0=>jJ8 ()) (fun o1=>some o1))))
def gC:BH:=mC [Sm] 14 Tryz.f14 (.s .n (.s .n (.j ⟨[1],[],[[1]],[]⟩ (.s .n (.l ⟨[1],[Ci 3],[[1]],[]⟩ [(1,⟨[1],[],[[1]],[]⟩),(0,⟨[],[GE 2],[],[]⟩)] .n)) (.j Ho (.s .n (.l ⟨[1],[Ci 4],[[1]],[]⟩ [(3,Ho),(0,⟨[],[GE 2],[],[]⟩)] .n)) .n)))) [.s 70] [.k (.bool)] (fun x=>Ff x.1) Tryz.func14 (by kernel_rfl)
def GH (a0:List UInt8):Option (Bool):=
 (QI a0).bind fun r1=>
 (gd (r1==true) (Hv)).bind fun r2=>
 (gd (r1==true) (Je r2 a0)).bind fun r3=>
 (some (if r1 then decide (r3<0)else false)).bind fun b4=>
 (gd (b4==true) (Fk)).bind fun r5=>
 (gd (b4==true) (Je r5 a0)).bind fun r6=>
 (some (if b4 then decide (r6<0)else false)).bind fun b7=>
 some b7
def LI:BH:=mC [Wf,QG,fX,Kz] 52 Tryz.f52 .n [.k (.str)] [.k (.bool)] (fun x=>GH x.1) Tryz.func52 (by kernel_rfl)
def CC (a0:Int):Option ((List UInt8)):=
 (some (if decide (a0<1) then true else decide (63<a0))).bind fun b1=>
 (if b1 then
  some ([]:List UInt8)
 else
  (Fk).bind fun r3=>
  (Wi r3 a0 SW).bind fun r4=>
  some r4)
def KA:BH:=mC [Kz,bp] 118 Tryz.f118 .n [.k (.int .i64)] [.k (.str)] (fun x=>CC x.1) Tryz.func118 (by kernel_rfl)
def LJ (adn:List UInt8):Option ((List UInt8)):=
 (if(adn==([]:List UInt8)) then
  some fF
 else
  some adn)
def Gi (ab5:Int) (aar:Int) (ahK:List UInt8):Option ((Int×(List UInt8)×Int)⊕((List UInt8))):=
 some (.inl ((Aj (Int.tdiv ab5 (2:Int))),ahK,(Aj (aar+1))))
def JV (aar:Int) (afl:((List UInt8))->Option ((Int×(List UInt8)×Int)⊕((List UInt8)))) (ahI:List UInt8):Option ((Int×(List UInt8)×Int)⊕((List UInt8))):=
 (O2 aar).bind fun r20=>
 (cat ahI r20).bind fun s21=>
 afl s21
def O5 (ab5:Int) (acy:List UInt8) (aar:Int):Option ((Int×(List UInt8)×Int)⊕((List UInt8))):=
 (if decide (aar<17) then
  jn (fun(v:(List UInt8))=>Gi ab5 aar v) (fun afl=>
  (if((Int.tmod ab5 (2:Int))==(1:Int)) then
   jn (fun(v:(List UInt8))=>JV aar afl v) (fun afj=>
   (if(acy != ([]:List UInt8)) then
    (cat acy SW).bind fun s23=>
    afj s23
   else
    afj acy))
  else
   afl acy))
 else
  some (.inr acy))
def LK (a0:Int):Option ((List UInt8)):=
 (Lu a0).bind fun r1=>
 (if !r1 then
  some ([]:List UInt8)
 else
  jn (fun(v:(List UInt8))=>LJ v) (fun jJ4=>
  (iter (fun(v:Int×(List UInt8)×Int)=>O5 v.1 v.2.1 v.2.2) FU (a0,([]:List UInt8),(0:Int))).bind (fun o0=>jJ4 o0)))
def kS:BH:=mC [fY,Wj] 120 Tryz.f120 (.s .n (.s .n (.s .n (.j ⟨[],[Md 3],[],[]⟩ (.s .n (.l ⟨[],[Ci 0,Md 3,Ci 4],[],[]⟩ [(1,⟨[],[Md 3],[],[]⟩)] (.s .n (.s (.j ⟨[0,4],[Md 3],[],[]⟩ (.s .n (.i (.j ⟨[0,4],[Md 3],[],[]⟩ .n .n) .n)) .n) .n)))) .n)))) [.k (.int .i64)] [.k (.str)] (fun x=>LK x.1) Tryz.func120 (by kernel_rfl)
def CX (a0:List UInt8) (a1:Ag):Option ((List UInt8)):=
 (if a1.Kind==0 then
  some ([]:List UInt8)
 else
  (Y3).bind fun r2=>
  (idx r2 a1.Kind).bind fun e3=>
  (cat a0 e3).bind fun s4=>
  (CH a1.N).bind fun r5=>
  (cat s4 r5).bind fun s6=>
  some s6)
def So:BH:=mC [gg,NL] 186 Tryz.f186 .n [.k (.str), .s 54] [.k (.str)] (fun x=>CX x.1 x.2.1) Tryz.func186 (by kernel_rfl)
def R3 (adm:List UInt8):Option ((List UInt8)):=
 (if(adm==([]:List UInt8)) then
  some tC
 else
  some adm)
def bx (aaG:Int) (ahJ:List UInt8):Option (((List UInt8)×Int)⊕((List UInt8))):=
 some (.inl (ahJ,(Aj (aaG+1))))
def EC (a0:AJ) (aaG:Int) (afH:List UInt8) (afM:Int):Option (((List UInt8)×Int)⊕((List UInt8))):=
 (idx a0.Color.l aaG).bind fun e25=>
 (idx a0.Color.l aaG).bind fun e26=>
 (if decide (afM<e26) then
  (ZM QE aaG (Aj (aaG+1))).bind fun s28=>
  (cat afH s28).bind fun s29=>
  some (.inl (s29,(Aj (afM+1))))
 else
  some (.inr afH))
def Gj (a0:AJ) (afI:List UInt8) (aaG:Int):Option (((List UInt8)×Int)⊕((List UInt8))):=
 (if decide (aaG<5) then
  jn (fun(v:(List UInt8))=>bx aaG v) (fun afk=>
  (iter (fun(v:(List UInt8)×Int)=>EC a0 aaG v.1 v.2) FU (afI,(0:Int))).bind (fun o0=>afk o0))
 else
  some (.inr afI))
def LL (a0:AJ) (aiX:List UInt8):Option ((List UInt8)):=
 jn (fun(v:(List UInt8))=>R3 v) (fun jJ8=>
 (iter (fun(v:(List UInt8)×Int)=>Gj a0 v.1 v.2) FU (aiX,(0:Int))).bind (fun o0=>jJ8 o0))
def LM (a0:AJ) (adn:List UInt8):Option ((List UInt8)):=
 jn (fun(v:(List UInt8))=>LL a0 v) (fun jJ6=>
 (if a0.Generic != 0 then
  (CH a0.Generic).bind fun r31=>
  (cat adn r31).bind fun s32=>
  jJ6 s32
 else
  jJ6 adn))
def ED (a0:AJ) (afG:List UInt8) (afP:Int):Option (((List UInt8)×Int)⊕((List UInt8))):=
 (if decide (afP<a0.X) then
  (cat afG yI).bind fun s40=>
  some (.inl (s40,(Aj (afP+1))))
 else
  some (.inr afG))
def O6 (a0:AJ):Option ((List UInt8)):=
 (QF a0).bind fun r1=>
 (if !r1 then
  some ([]:List UInt8)
 else
  jn (fun(v:(List UInt8))=>LM a0 v) (fun jJ4=>
  (iter (fun(v:(List UInt8)×Int)=>ED a0 v.1 v.2) FU (([]:List UInt8),(0:Int))).bind (fun o0=>jJ4 o0)))
def kT:BH:=mC [V1,NL] 284 Tryz.f284 (.s .n (.s .n (.s .n (.j ⟨[1],[Md 3],[[1]],[]⟩ (.s .n (.l ⟨[1],[Md 3,Ci 4],[[1]],[]⟩ [(1,⟨[1],[Md 3],[[1]],[]⟩)] .n)) (.j ⟨[1],[Md 3],[[1]],[]⟩ .n (.j ⟨[],[Md 3],[],[]⟩ (.s .n (.l ⟨[1],[Md 3,Ci 5],[[1]],[]⟩ [(3,⟨[],[Md 3],[],[]⟩)] (.s .n (.j ⟨[1,5],[Md 3],[[1]],[]⟩ (.s .n (.l ⟨[1,5],[Md 3,Ci 6],[[1]],[]⟩ [(5,⟨[1,5],[Md 3],[[1]],[]⟩)] .n)) .n)))) .n)))))) [.s 60] [.k (.str)] (fun x=>O6 x.1) Tryz.func284 (by kernel_rfl)
def HC (a0:AF) (a1:Int):Option (Ba×Bool):=
 (LH a0 a1).bind fun r1=>
 some (r1.1,r1.2)
def O7:BH:=mC [kP] 60 Tryz.f60 .n [.s 31, .k (.int .i64)] [.s 94, .k (.bool)] (fun x=>HC x.1 x.2.1) Tryz.func60 (by kernel_rfl)
def JW (a0:AF) (a1:Ba):Option (Bool):=
 (if a1.F_==5 then
  (Hz a0 a1.Id).bind fun r2=>
  some (r2==1)
 else
  (O3 a0 a1.F_ a1.acK).bind fun r3=>
  (Jf r3 a1.Id).bind fun r4=>
  some (r4==1))
def bA:BH:=mC [bm,kQ,R1] 38 Tryz.f38 (.s .n (.s .n (.s (.r [] [] (.t (.q 0 .lz (.q 5 .co .n)))) .n))) [.s 31, .s 94] [.k (.bool)] (fun x=>JW x.1 x.2.1) Tryz.func38 (by kernel_rfl)
def Sq:Option (Bool):=
 some true
def Sr (a0:List (AI)) (a1:List (AI)) (Th:Int):Option ((Int)⊕(Unit⊕Bool)):=
 (if(decide (Th<(a0.length:Int))) then
  (idx a0 Th).bind fun e8=>
  (idx a1 Th).bind fun e9=>
  (gB e8 e9).bind fun r10=>
  (if !r10 then
   some (.inr (.inr false))
  else
   some (.inl (Aj (Th+1))))
 else
  some (.inr (.inl ())))
def Gk (a0:List (AI)) (a1:List (AI)):Option (Bool):=
 (if((a0.length:Int) != (a1.length:Int)) then
  some false
 else
  jn (fun(v:Unit)=>Sq) (fun jJ2=>
  (iter (fun(v:Int)=>Sr a0 a1 v) FU (0:Int)).bind (Sum.elim (fun o0=>jJ2 ()) (fun o1=>some o1))))
def Wl:BH:=mC [kR] 115 Tryz.f115 (.s .n (.s .n (.j Ho (.s .n (.l ⟨[0,1],[Ci 5],[],[]⟩ [(1,Ho),(0,⟨[],[GE 4],[],[]⟩)] .n)) .n))) [.k (.w_ 112), .k (.w_ 112)] [.k (.bool)] (fun x=>Gk x.1 x.2.1) Tryz.func115 (by kernel_rfl)
end Go.PL
