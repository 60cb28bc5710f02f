/- Functions of the program, as partial functions in Lean, with proofs. -/
import Derived.Test.YtekonfaeacligaaGreatDoorPlLsB
import Derived.Test.YtekonfaeacligaaGreatDoorPlLsF0
import Derived.Test.YtekonfaeacligaaGreatDoorPlLsF1
import Derived.Test.YtekonfaeacligaaGreatDoorPlLsF2
namespace Go.PL
open Go Go.RowKit Go.Proofs
set_option maxRecDepth 100000
set_option linter.all false
set_option maxHeartbeats 4000000
attribute [local irreducible] Ak BW BI
def O8:Option (Bool):=
 some true
def IA (a0:AF) (afD:Int):Option ((Int)⊕(Unit⊕Bool)):=
 (if(decide (afD<(a0.aae.length:Int))) then
  (idx a0.aae afD).bind fun e13=>
  (gd ((decide (300<(e13.b_.length:Int)))==false) (idx a0.aae afD)).bind fun e14=>
  (gd ((decide (300<(e13.b_.length:Int)))==false) (Ff (⟨0,(⟨0,0,0,0,0,0,0,[],0,0,(⟨0,0⟩:Ag),(⟨0,0⟩:Ag),(⟨0,0⟩:Ag)⟩:Am),e14.N_,(⟨(⟨0,0,(⟨0,0,0,0,0⟩:A5 (Int))⟩:AJ),false,false,0⟩:CL),false,(⟨0,0,(⟨0,0,0,0,0,0,0,[],0,0,(⟨0,0⟩:Ag),(⟨0,0⟩:Ag),(⟨0,0⟩:Ag)⟩:Am)⟩:Bu),false,([]:List (Dr)),([]:List (AI)),(⟨0,0,(⟨0,0,0,0,0,0,0,[],0,0,(⟨0,0⟩:Ag),(⟨0,0⟩:Ag),(⟨0,0⟩:Ag)⟩:Am),0,0,0,0⟩:Bk)⟩:AB))).bind fun r15=>
  (some (if(decide (300<(e13.b_.length:Int))) then true else !r15)).bind fun b16=>
  (if b16 then
   some (.inr (.inr false))
  else
   some (.inl (Aj (afD+1))))
 else
  some (.inr (.inl ())))
def Gl (a0:AF):Option (Bool):=
 jn (fun(v:Unit)=>O8) (fun jJ7=>
 (iter (fun(v:Int)=>IA a0 v) FU (0:Int)).bind (Sum.elim (fun o0=>jJ7 ()) (fun o1=>some o1)))
def IB (a0:AF) (ae3:Int):Option ((Int)⊕(Unit⊕Bool)):=
 (if(decide (ae3<(a0.Td.length:Int))) then
  (idx a0.Td ae3).bind fun e23=>
  (Ff e23.Tf).bind fun r24=>
  (if !r24 then
   some (.inr (.inr false))
  else
   some (.inl (Aj (ae3+1))))
 else
  some (.inr (.inl ())))
def Gm (a0:AF):Option (Bool):=
 jn (fun(v:Unit)=>Gl a0) (fun jJ6=>
 (iter (fun(v:Int)=>IB a0 v) FU (0:Int)).bind (Sum.elim (fun o0=>jJ6 ()) (fun o1=>some o1)))
def IC (a0:AF) (aem:Int):Option ((Int)⊕(Unit⊕Bool)):=
 (if(decide (aem<(a0.Stack.length:Int))) then
  (idx a0.Stack aem).bind fun e31=>
  (gd ((decide (20<(e31.aaU.length:Int)))==false) (idx a0.Stack aem)).bind fun e32=>
  (gd ((decide (20<(e31.aaU.length:Int)))==false) (Ff e32.Tf)).bind fun r33=>
  (some (if(decide (20<(e31.aaU.length:Int))) then true else !r33)).bind fun b34=>
  (if b34 then
   some (.inr (.inr false))
  else
   some (.inl (Aj (aem+1))))
 else
  some (.inr (.inl ())))
def Gn (a0:AF) (akz:Int):Option (Bool):=
 (some (if decide (300<akz) then true else decide (10<(a0.e_.length:Int)))).bind fun b3=>
 (if b3 then
  some false
 else
  jn (fun(v:Unit)=>Gm a0) (fun jJ5=>
  (iter (fun(v:Int)=>IC a0 v) FU (0:Int)).bind (Sum.elim (fun o0=>jJ5 ()) (fun o1=>some o1))))
def ID (a0:AF) (aen:Int) (acN:Int):Option ((Int×Int)⊕(Int)):=
 (some (if(decide (acN<(a0.e_.length:Int))) then decide (acN<10)else false)).bind fun b42=>
 (if b42 then
  (idx a0.e_ acN).bind fun e44=>
  (idx a0.e_ acN).bind fun e45=>
  (idx a0.e_ acN).bind fun e46=>
  some (.inl ((Aj ((Aj ((Aj (aen+(e44.aaV.length:Int)))+(e45.Hand.length:Int)))+(e46.aaF.length:Int))),(Aj (acN+1))))
 else
  some (.inr aen))
def Mr (a0:AF):Option (Bool):=
 jn (fun(v:Int)=>Gn a0 v) (fun jJ2=>
 (iter (fun(v:Int×Int)=>ID a0 v.1 v.2) FU ((Aj ((Aj ((Aj ((Aj ((Aj ((Aj ((a0.b_.length:Int)+(a0.Tl.length:Int)))+(a0.ac5.length:Int)))+(a0.Extra.length:Int)))+(Aj ((8:Int)*(a0.Stack.length:Int)))))+(Aj ((8:Int)*(a0.Td.length:Int)))))+(Aj ((4:Int)*(a0.aae.length:Int))))),(0:Int))).bind (fun o0=>jJ2 o0))
def gD:BH:=mC [gC] 8 Tryz.f8 (.s .n (.s .n (.j ⟨[1],[Ci 3],[[1]],[]⟩ (.s .n (.l ⟨[1],[Ci 3,Ci 4],[[1]],[]⟩ [(1,⟨[1],[Ci 3],[[1]],[]⟩)] .n)) (.s .n (.j ⟨[1],[],[[1]],[]⟩ (.s .n (.l ⟨[1],[Ci 5],[[1]],[]⟩ [(3,⟨[1],[],[[1]],[]⟩),(0,⟨[],[GE 2],[],[]⟩)] .n)) (.j ⟨[1],[],[[1]],[]⟩ (.s .n (.l ⟨[1],[Ci 6],[[1]],[]⟩ [(5,⟨[1],[],[[1]],[]⟩),(0,⟨[],[GE 2],[],[]⟩)] .n)) (.j Ho (.s .n (.l ⟨[1],[Ci 7],[[1]],[]⟩ [(7,Ho),(0,⟨[],[GE 2],[],[]⟩)] .n)) .n))))))) [.s 31] [.k (.bool)] (fun x=>Mr x.1) Tryz.func8 (by kernel_rfl)
def QJ (a0:Ky):Option (Bool):=
 (some (if a0.Types==2 then true else a0.Types==4)).bind fun b7=>
 (gd (b7==false) (H9 a0.Types (1:Int))).bind fun r8=>
 (gd ((b7==false)&&((!r8)==true)) (H9 a0.Types (2:Int))).bind fun r9=>
 (some (if !r8 then !r9 else false)).bind fun b10=>
 (some (if b7 then true else b10)).bind fun b11=>
 some b11
def HD (a0:Ky) (abd:Int):Option ((Int)⊕(Unit⊕Bool)):=
 (if(decide (abd<(a0.acJ.length:Int))) then
  (idx a0.acJ abd).bind fun e17=>
  (GH e17).bind fun r18=>
  (gd (((!r18)==false)&&((decide (0<abd))==true)) (idx a0.acJ (Aj (abd - 1)))).bind fun e19=>
  (gd (((!r18)==false)&&((decide (0<abd))==true)) (idx a0.acJ abd)).bind fun e20=>
  (some (if decide (0<abd) then !(Op.bytesLess e19 e20)else false)).bind fun b21=>
  (some (if !r18 then true else b21)).bind fun b22=>
  (if b22 then
   some (.inr (.inr false))
  else
   some (.inl (Aj (abd+1))))
 else
  some (.inr (.inl ())))
def Wm (a0:Ky):Option (Bool):=
 (some (if decide (a0.ac4<0) then true else decide (3<a0.ac4))).bind fun b1=>
 (some (if b1 then true else decide (a0.Types<1))).bind fun b2=>
 (some (if b2 then true else decide (63<a0.Types))).bind fun b3=>
 (some (if b3 then true else decide (4<(a0.acJ.length:Int)))).bind fun b4=>
 (if b4 then
  some false
 else
  jn (fun(v:Unit)=>QJ a0) (fun jJ6=>
  (iter (fun(v:Int)=>HD a0 v) FU (0:Int)).bind (Sum.elim (fun o0=>jJ6 ()) (fun o1=>some o1))))
def tK:BH:=mC [LI,Y1] 29 Tryz.f29 (.s .n (.s .n (.j ⟨[1],[],[[1]],[]⟩ (.s .n (.l ⟨[1],[Ci 3],[[1]],[]⟩ [(1,⟨[1],[],[[1]],[]⟩),(0,⟨[],[GE 2],[],[]⟩)] .n)) .n))) [.s 85] [.k (.bool)] (fun x=>Wm x.1) Tryz.func29 (by kernel_rfl)
def D5 (a0:Am):Option (Bool):=
 (some (if decide (a0.F_<0) then true else decide (5<a0.F_))).bind fun b1=>
 (some (if b1 then true else decide (a0.Who<0))).bind fun b2=>
 (some (if b2 then true else decide (2<a0.Who))).bind fun b3=>
 (some (if b3 then true else decide (a0.Self<0))).bind fun b4=>
 (some (if b4 then true else decide (2<a0.Self))).bind fun b5=>
 (some (if b5 then true else decide (a0.Tap<0))).bind fun b6=>
 (some (if b6 then true else decide (2<a0.Tap))).bind fun b7=>
 (if b7 then
  some false
 else
  (Dz a0.Types a0.abo (63:Int)).bind fun r9=>
  (gd ((!r9)==false) (Dz a0.ac1 a0.aaY (31:Int))).bind fun r10=>
  (some (if !r9 then true else !r10)).bind fun b11=>
  (if b11 then
   some false
  else
   (gd ((a0.Sub != ([]:List UInt8))==true) (GH a0.Sub)).bind fun r13=>
   (some (if(a0.Sub != ([]:List UInt8)) then !r13 else false)).bind fun b14=>
   (some (if b14 then true else decide (a0.Keys<0))).bind fun b15=>
   (some (if b15 then true else decide (131071<a0.Keys))).bind fun b16=>
   (if b16 then
    some false
   else
    (GG a0.Power).bind fun r18=>
    (gd (r18==true) (GG a0.aa9)).bind fun r19=>
    (some (if r18 then r19 else false)).bind fun b20=>
    (gd (b20==true) (GG a0.Value)).bind fun r21=>
    (some (if b20 then r21 else false)).bind fun b22=>
    some b22)))
def EE:BH:=mC [fZ,LI,f5] 54 Tryz.f54 .n [.s 56] [.k (.bool)] (fun x=>D5 x.1) Tryz.func54 (by kernel_rfl)
def Ss (aga:Int):Option ((List UInt8)):=
 (CC aga).bind fun r3=>
 some r3
def Su (a0:Int) (ad6:Int) (agK:Int):Option ((Int×Int)⊕(Int)):=
 (if decide (agK<a0) then
  some (.inl ((Aj (ad6*(2:Int))),(Aj (agK+1))))
 else
  some (.inr ad6))
def Gp (a0:Int):Option ((List UInt8)):=
 jn (fun(v:Int)=>Ss v) (fun jJ2=>
 (iter (fun(v:Int×Int)=>Su a0 v.1 v.2) FU ((1:Int),(0:Int))).bind (fun o0=>jJ2 o0))
def Wn:BH:=mC [KA] 185 Tryz.f185 (.s .n (.s .n (.j ⟨[],[Ci 3],[],[]⟩ (.s .n (.l ⟨[0],[Ci 3,Ci 4],[],[]⟩ [(1,⟨[],[Ci 3],[],[]⟩)] .n)) .n))) [.k (.int .i64)] [.k (.str)] (fun x=>Gp x.1) Tryz.func185 (by kernel_rfl)
def Gq (a0:A6 (Int)):Option ((List UInt8)):=
 (Wa a0).bind fun r1=>
 (O6 r1).bind fun r2=>
 some r2
def Wo:BH:=mC [kG,kT] 171 Tryz.f171 .n [.s 50] [.k (.str)] (fun x=>Gq x.1) Tryz.func171 (by kernel_rfl)
def gE:Option (Bool):=
 some true
def FO (a0:AF) (a1:List (Int)) (a2:Int) (a3:Int) (aeu:Int):Option ((Int)⊕(Unit⊕Bool)):=
 (if(decide (aeu<(a1.length:Int))) then
  (idx a1 aeu).bind fun e7=>
  (HC a0 e7).bind fun r8=>
  (some (if !r8.2 then true else r8.1.F_ != a2)).bind fun b9=>
  (some (if decide (0<=a3) then r8.1.acK != a3 else false)).bind fun b10=>
  (some (if b9 then true else b10)).bind fun b11=>
  (gd (b11==false) (idx a1 aeu)).bind fun e12=>
  (gd (b11==false) (Jf a1 e12)).bind fun r13=>
  (some (if b11 then true else r13 != 1)).bind fun b14=>
  (if b14 then
   some (.inr (.inr false))
  else
   some (.inl (Aj (aeu+1))))
 else
  some (.inr (.inl ())))
def FP (a0:AF) (a1:List (Int)) (a2:Int) (a3:Int):Option (Bool):=
 jn (fun(v:Unit)=>gE) (fun jJ1=>
 (iter (fun(v:Int)=>FO a0 a1 a2 a3 v) FU (0:Int)).bind (Sum.elim (fun o0=>jJ1 ()) (fun o1=>some o1)))
def kU:BH:=mC [O7,R1] 36 Tryz.f36 (.s .n (.j Ho (.s .n (.l ⟨[1,2,3,4],[Ci 9],[[4]],[]⟩ [(1,Ho),(0,⟨[],[GE 8],[],[]⟩)] (.s .n (.s (.s (.r [] [] (.t (.q 0 .lz .n))) .n) .n)))) .n)) [.s 31, .k (.w_ 3), .k (.int .i64), .k (.int .i64)] [.k (.bool)] (fun x=>FP x.1 x.2.1 x.2.2.1 x.2.2.2.1) Tryz.func36 (by kernel_rfl)
def LN:Option (Bool):=
 some true
def EF (a0:List (A4)) (a1:AF) (Th:Int):Option ((Int)⊕(Unit⊕Bool)):=
 (if(decide (Th<(a1.b_.length:Int))) then
  (idx a1.b_ Th).bind fun e8=>
  (bw e8 (a0.length:Int) (a1.e_.length:Int)).bind fun r9=>
  (some (if !r9 then true else decide (a1.aaE<=e8.Id))).bind fun b10=>
  (some (if b10 then true else decide (a1.Ti<=e8.abC))).bind fun b11=>
  (gd ((b11==false)&&((decide (0<Th))==true)) (idx a1.b_ (Aj (Th - 1)))).bind fun e12=>
  (some (if decide (0<Th) then decide (e8.Id<=e12.Id)else false)).bind fun b13=>
  (some (if b11 then true else b13)).bind fun b14=>
  (if b14 then
   some (.inr (.inr false))
  else
   (JW a1 e8).bind fun r16=>
   (if !r16 then
    some (.inr (.inr false))
   else
    some (.inl (Aj (Th+1)))))
 else
  some (.inr (.inl ())))
def Ig (a0:List (A4)) (a1:AF):Option (Bool):=
 (if(decide (2048<(a1.b_.length:Int))) then
  some false
 else
  jn (fun(v:Unit)=>LN) (fun jJ2=>
  (iter (fun(v:Int)=>EF a0 a1 v) FU (0:Int)).bind (Sum.elim (fun o0=>jJ2 ()) (fun o1=>some o1))))
def W8:BH:=mC [tJ,bA] 21 Tryz.f21 (.s .n (.s .n (.j Ho (.s .n (.l ⟨[0,3],[Ci 5],[[3]],[]⟩ [(1,Ho),(0,⟨[],[GE 4],[],[]⟩)] .n)) .n))) [.k (.w_ 88), .s 31] [.k (.bool)] (fun x=>Ig x.1 x.2.1) Tryz.func21 (by kernel_rfl)
def LO (a0:AB) (a1:AB):Option (Bool):=
 (some (if a0.Kind==a1.Kind then a0.Filter==a1.Filter else false)).bind fun b3=>
 (gd (b3==true) (EB a0.N_ a1.N_)).bind fun r4=>
 (some (if b3 then r4 else false)).bind fun b5=>
 (some (if b5 then a0.aek==a1.aek else false)).bind fun b6=>
 (some (if b6 then a0.ahl==a1.ahl else false)).bind fun b7=>
 (some (if b7 then a0.aby==a1.aby else false)).bind fun b8=>
 (some (if b8 then a0.May==a1.May else false)).bind fun b9=>
 (gd (b9==true) (Gk a0.B_ a1.B_)).bind fun r10=>
 (some (if b9 then r10 else false)).bind fun b11=>
 (some (if b11 then a0.Replace==a1.Replace else false)).bind fun b12=>
 some b12
def O9 (a0:AB) (a1:AB) (adf:Int):Option ((Int)⊕(Unit⊕Bool)):=
 (if(decide (adf<(a0.aam.length:Int))) then
  (idx a0.aam adf).bind fun e18=>
  (idx a1.aam adf).bind fun e19=>
  (if !(e18==e19) then
   some (.inr (.inr false))
  else
   some (.inl (Aj (adf+1))))
 else
  some (.inr (.inl ())))
def LP (a0:AB) (a1:AB):Option (Bool):=
 (if((a0.aam.length:Int) != (a1.aam.length:Int)) then
  some false
 else
  jn (fun(v:Unit)=>LO a0 a1) (fun jJ2=>
  (iter (fun(v:Int)=>O9 a0 a1 v) FU (0:Int)).bind (Sum.elim (fun o0=>jJ2 ()) (fun o1=>some o1))))
def kV:BH:=mC [LE,Wl] 67 Tryz.f67 (.s .n (.s .n (.j ⟨[2,3],[],[[2],[3]],[]⟩ (.s .n (.l ⟨[2,3],[Ci 5],[[2],[3]],[]⟩ [(1,⟨[2,3],[],[[2],[3]],[]⟩),(0,⟨[],[GE 4],[],[]⟩)] .n)) .n))) [.s 70, .s 70] [.k (.bool)] (fun x=>LP x.1 x.2.1) Tryz.func67 (by kernel_rfl)
end Go.PL
