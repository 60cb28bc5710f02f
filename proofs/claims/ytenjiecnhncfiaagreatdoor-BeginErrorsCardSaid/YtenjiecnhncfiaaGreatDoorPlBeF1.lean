/- Functions of the program, as partial functions in Lean, with proofs. -/
import Derived.Test.YtenjiecnhncfiaaGreatDoorPlBeB
namespace Go.PL
open Go Go.RowKit Go.Proofs
set_option maxRecDepth 100000
set_option linter.all false
set_option maxHeartbeats 4000000
attribute [local irreducible] Ag Cv Co
def Bg (a0:List (AK)):Option (List (AK)):=if a0.length*768<=140737488355328/\a0.length<=maxLen then some a0 else none
theorem D5 {a0 r:List (AK)} (h:Bg a0=some r):BZ Tryz.prog I0 56 [vL (Ba) a0] 112 89 (fun len cs=>len=r.length/\cs=r.flatMap (Ba)):=by
 refine BZ.of (t:=2) (m:=8) Aa (by kernel_rfl) Tryz.func56 rfl rfl Tryz.ntmps56 ?_;intro w0 av old gv;unfold Bg at h;split at h
 ·rename_i hb;injection h with h;subst h;refine Rg [.a] (sl 8 [(0,vL (Ba) a0)] []) (aN) ?_;refine Ag.seq ?_;refine Ag.seq ?_;refine Ag.region ?_;refine Rp 1 [.a] (sl 8 [(0,vL (Ba) a0),(3,vL (Ba) a0)] []) (aN) ?_;refine Run.inl rfl rfl (DW.ahs (len:=a0.length) (cs:=a0.flatMap (Ba)) rfl (fun b hbn=>?_));refine Rw [] (sl 8 [(0,vL (Ba) a0),(3,vL (Ba) a0),(4,vB b)] []) (aN) ?_;refine Tn ?_;refine Ag.ifB b (by kernel_rfl) (fun hb1=>?_) (fun hb1=>?_)
  ·have h0:a0=[]:=List.length_eq_zero_iff.1 (hbn hb1);refine Rg [.a] (sl 8 [(2, .c (.h_ [2]))] [I8 [2] 112 89 (Ba) ([]:List (AK))]) (aN) ?_;refine Ag.ret ?_;refine Tr ?_;exact⟨.inr rfl, .inl ⟨[2],I8 [2] 112 89 (Ba) ([]:List (AK)),0,by kernel_rfl,by kernel_rfl,by kernel_rfl,by kernel_rfl,by rw [h0];exact⟨rfl,rfl⟩⟩⟩
  ·refine Ag.skip ?_;refine Tn ?_;have hr:app 768 ([]:List (AK)) a0=some a0:=by unfold app;rw [if_pos ⟨by simpa using hb.1,by simpa using hb.2⟩];rfl
   refine Rg [.a, .a,(.e a0.length (a0.flatMap (Ba))), .a] (sl 8 [(2, .c (.h_ [5]))] [I8 [5] 112 89 (Ba) a0]) (aC (show (a0.flatMap (Ba)).length =a0.length*89 from BP (enc:=Ba) (n:=89) mR _)<|aC (vw hr (Ba))<|aC (LT hr)<|aN) ?_;refine Ag.ret ?_;exact⟨.inr rfl, .inl ⟨[5],I8 [5] 112 89 (Ba) a0,a0.length,by kernel_rfl,by kernel_rfl,by kernel_rfl,AX _ (fun _=>rfl) _,⟨rfl,rfl⟩⟩⟩
 ·cases h
def EC:CE TE Tryz.prog I0:=a6 56 [.k (.u_ 112)] 112 (fun x=>Bg x.1) (fun x r h=>Mc (by kernel_rfl) (D5 (r:=r) h))
def BI (a0:List (Cm)):Option (List (Cm)):=if a0.length*80<=140737488355328/\a0.length<=maxLen then some a0 else none
theorem FR {a0 r:List (Cm)} (h:BI a0=some r):BZ Tryz.prog I0 57 [vL (B5) a0] 115 6 (fun len cs=>len=r.length/\cs=r.flatMap (B5)):=by
 refine BZ.of (t:=2) (m:=8) Aa (by kernel_rfl) Tryz.func57 rfl rfl Tryz.ntmps57 ?_;intro w0 av old gv;unfold BI at h;split at h
 ·rename_i hb;injection h with h;subst h;refine Rg [.a] (sl 8 [(0,vL (B5) a0)] []) (aN) ?_;refine Ag.seq ?_;refine Ag.seq ?_;refine Ag.region ?_;refine Rp 1 [.a] (sl 8 [(0,vL (B5) a0),(3,vL (B5) a0)] []) (aN) ?_;refine Run.inl rfl rfl (DW.ahs (len:=a0.length) (cs:=a0.flatMap (B5)) rfl (fun b hbn=>?_));refine Rw [] (sl 8 [(0,vL (B5) a0),(3,vL (B5) a0),(4,vB b)] []) (aN) ?_;refine Tn ?_;refine Ag.ifB b (by kernel_rfl) (fun hb1=>?_) (fun hb1=>?_)
  ·have h0:a0=[]:=List.length_eq_zero_iff.1 (hbn hb1);refine Rg [.a] (sl 8 [(2, .c (.h_ [2]))] [I8 [2] 115 6 (B5) ([]:List (Cm))]) (aN) ?_;refine Ag.ret ?_;refine Tr ?_;exact⟨.inr rfl, .inl ⟨[2],I8 [2] 115 6 (B5) ([]:List (Cm)),0,by kernel_rfl,by kernel_rfl,by kernel_rfl,by kernel_rfl,by rw [h0];exact⟨rfl,rfl⟩⟩⟩
  ·refine Ag.skip ?_;refine Tn ?_;have hr:app 80 ([]:List (Cm)) a0=some a0:=by unfold app;rw [if_pos ⟨by simpa using hb.1,by simpa using hb.2⟩];rfl
   refine Rg [.a, .a,(.e a0.length (a0.flatMap (B5))), .a] (sl 8 [(2, .c (.h_ [5]))] [I8 [5] 115 6 (B5) a0]) (aC (show (a0.flatMap (B5)).length =a0.length*6 from BP (enc:=B5) (n:=6) xX _)<|aC (vw hr (B5))<|aC (LT hr)<|aN) ?_;refine Ag.ret ?_;exact⟨.inr rfl, .inl ⟨[5],I8 [5] 115 6 (B5) a0,a0.length,by kernel_rfl,by kernel_rfl,by kernel_rfl,AX _ (fun _=>rfl) _,⟨rfl,rfl⟩⟩⟩
 ·cases h
def GR:CE TE Tryz.prog I0:=a6 57 [.k (.u_ 115)] 115 (fun x=>BI x.1) (fun x r h=>Mc (by kernel_rfl) (FR (r:=r) h))
def Mp:Option (Int):=
 some (-1:Int)
def Mq (a0:List (Int)) (a1:Int) (aeF:Int):Option ((Int)⊕(Unit⊕Int)):=
 (if(decide (aeF<(a0.length:Int))) then
  (idx a0 aeF).bind fun e7=>
  (if a1==e7 then
   some (.inr (.inr aeF))
  else
   some (.inl (Ad (aeF+1))))
 else
  some (.inr (.inl ())))
def ED (a0:List (Int)) (a1:Int):Option (Int):=
 jn (fun(v:Unit)=>Mp) (fun jJ1=>
 (iter (fun(v:Int)=>Mq a0 a1 v) FU (0:Int)).bind (Sum.elim (fun o0=>jJ1 ()) (fun o1=>some o1)))
def GT:CE TE Tryz.prog I0:=AA [] Aa Ac 9 89 Tryz.f89 (Tryz.f89.body.getD .skip) (.s .n (.j ⟨[],[],[],[]⟩ (.s .n (.l ⟨[0,1,7],[(8, .c (.v (.k (.int .i64))))],[],[]⟩ [(1,⟨[],[],[],[]⟩),(0,⟨[],[(4, .c (.v (.k (.int .i64))))],[],[]⟩)] .n)) .n)) [.k (.u_ 3), .k (.int .i64)] [.k (.int .i64)] (fun x=>ED x.1 x.2.1) Tryz.func89 rfl (by kernel_rfl)
def dK (asd:Int):Option (Int):=
 some asd
def dM (K_:(Int)->Option (Int)):Option (Int):=
 K_ (-1:Int)
def dN (a0:Ao) (a1:Int) (ae7:Int):Option ((Int)⊕(Unit⊕Int)):=
 (if(decide (ae7<(a0.j_.length:Int))) then
  (idx a0.j_ ae7).bind fun e9=>
  (if e9.Id==a1 then
   some (.inr (.inr ae7))
  else
   some (.inl (Ad (ae7+1))))
 else
  some (.inr (.inl ())))
def bu (a0:Ao) (a1:Int):Option (Int):=
 jn (fun(v:Int)=>dK v) (fun K_=>
 jn (fun(v:Unit)=>dM K_) (fun jJ3=>
 (iter (fun(v:Int)=>dN a0 a1 v) FU (0:Int)).bind (Sum.elim (fun o0=>jJ3 ()) (fun o1=>K_ o1))))
def jT:CE TE Tryz.prog I0:=AA [] Aa Ac 9 129 Tryz.f129 (Tryz.f129.body.getD .skip) (.s .n (.s (.r [] [] (.j 3 ⟨[],[(8, .c (.v (.k (.int .i64))))],[],[]⟩ (.s .n (.j ⟨[],[],[[2],[3]],[]⟩ (.s .n (.l ⟨[0,1,7],[(8, .c (.v (.k (.int .i64))))],[[2],[3]],[]⟩ [(1,⟨[],[],[[2],[3]],[]⟩),(0,⟨[],[(4, .c (.v (.k (.int .i64))))],[[2],[3]],[]⟩)] (.s .n (.s .n (.s (.s .n (.s (.r [] [] (.c 5 .n .n)) .n)) .n))))) .n)) .n)) .n)) [.s 36, .k (.int .i64)] [.k (.int .i64)] (fun x=>bu x.1 x.2.1) Tryz.func129 rfl (by kernel_rfl)
def dO (a0:Cc) (ap6:Bool):Option (Bool):=
 (if ap6 then
  some ((a0.Options.length:Int)==0)
 else
  (if a0.Kind==3 then
   (some (if a0.adA==0 then true else a0.adA==(a0.Options.length:Int))).bind fun b8=>
   (some (if a0.adA==a0.anu then b8 else false)).bind fun b9=>
   some b9
  else
   (if a0.Kind==5 then
    some (a0.adA==a0.anu)
   else
    some true)))
def dP (a0:Cc) (asb:Bool):Option (Bool):=
 (if asb then
  some (decide ((a0.Options.length:Int)<=1))
 else
  jn (fun(v:Bool)=>dO a0 v) (fun jJ5=>
  (if a0.Kind==6 then
   jJ5 (a0.Kind==6)
  else
   jJ5 (a0.Kind==7))))
def bw (a0:Cc):Option (Bool):=
 jn (fun(v:Bool)=>dP a0 v) (fun K_=>
 (if a0.Kind==1 then
  K_ (a0.Kind==1)
 else
  (if a0.Kind==2 then
   K_ (a0.Kind==2)
  else
   (if a0.Kind==9 then
    K_ (a0.Kind==9)
   else
    (if a0.Kind==10 then
     K_ (a0.Kind==10)
    else
     (if a0.Kind==11 then
      K_ (a0.Kind==11)
     else
      (if a0.Kind==4 then
       K_ (a0.Kind==4)
      else
       K_ (a0.Kind==8))))))))
def jU:CE TE Tryz.prog I0:=AA [] Aa Ac 9 64 Tryz.f64 (Tryz.f64.body.getD .skip) (.s .n (.s .n (.s (.s .n (.j ⟨[1,3,8],[(9, .c (.v (.k (.bool))))],[[1]],[]⟩ .n (.i .n (.j ⟨[1,3,8],[(19, .c (.v (.k (.bool))))],[[1]],[]⟩ .n .n)))) .n))) [.s 81] [.k (.bool)] (fun x=>bw x.1) Tryz.func64 rfl (by kernel_rfl)
def jV (aqx:List (Int)):Option ((List (Int))):=
 some aqx
def jW (a0:Int) (amk:Int) (aly:List (Int)):Option ((Int×(List (Int)))⊕((List (Int)))):=
 (if decide (amk<a0) then
  (app 8 aly ([amk]:List (Int))).bind fun l11=>
  some (.inl ((Ad (amk+1)),l11))
 else
  some (.inr aly))
def VG (a0:Int):Option ((List (Int))):=
 jn (fun(v:(List (Int)))=>jV v) (fun K_=>
 (iter (fun(v:Int×(List (Int)))=>jW a0 v.1 v.2) FU ((0:Int),([]:List (Int)))).bind (fun o0=>K_ o0))
def m8:CE TE Tryz.prog I0:=AA [] Aa Ac 9 95 Tryz.f95 (Tryz.f95.body.getD .skip) (.s .n (.s .n (.j ⟨[],[(3, .c (.c (.h_ [3])))],[],[([3], .row 3)]⟩ (.s .n (.l ⟨[5],[(3, .c (.c (.h_ [3]))),(6, .c (.v (.k (.int .i64))))],[],[([3], .row 3)]⟩ [(1,⟨[],[(3, .c (.c (.h_ [3])))],[],[([3], .row 3)]⟩)] .n)) .n))) [.k (.int .i64)] [.k (.u_ 3)] (fun x=>VG x.1) Tryz.func95 rfl (by kernel_rfl)
def XG (a0:Cc) (a1:List (Int)) (amu:Int):Option (Bool):=
 (some (if((a1.length:Int)==(a0.Options.length:Int)) then amu==a0.N else false)).bind fun b3=>
 some b3
def VH (a1:List (Int)) (aiS:Int) (ajM:Int):Option ((Int×Int)⊕(Int⊕Bool)):=
 (if(decide (ajM<(a1.length:Int))) then
  (idx a1 ajM).bind fun e12=>
  (some (if decide (e12<0) then true else decide (1000000<e12))).bind fun b13=>
  (if b13 then
   some (.inr (.inr false))
  else
   some (.inl ((Ad (aiS+e12)),(Ad (ajM+1)))))
 else
  some (.inr (.inl aiS)))
def TK (a0:Cc) (a1:List (Int)):Option (Bool):=
 jn (fun(v:Int)=>XG a0 a1 v) (fun K_=>
 (iter (fun(v:Int×Int)=>VH a1 v.1 v.2) FU ((0:Int),(0:Int))).bind (Sum.elim (fun o0=>K_ o0) (fun o1=>some o1)))
def bA:CE TE Tryz.prog I0:=AA [] Aa Ac 9 98 Tryz.f98 (Tryz.f98.body.getD .skip) (.s .n (.s .n (.j ⟨[1,2],[(5, .c (.v (.k (.int .i64))))],[[2]],[]⟩ (.s .n (.l ⟨[1,2,8,9],[(5, .c (.v (.k (.int .i64)))),(10, .c (.v (.k (.int .i64))))],[[2]],[]⟩ [(1,⟨[1,2],[(5, .c (.v (.k (.int .i64))))],[[2]],[]⟩),(0,⟨[],[(4, .c (.v (.k (.bool))))],[],[]⟩)] .n)) .n))) [.s 81, .k (.u_ 3)] [.k (.bool)] (fun x=>TK x.1 x.2.1) Tryz.func98 rfl (by kernel_rfl)
def TL (a0:Int):Option (Bool):=
 (some (if decide (97<=a0) then decide (a0<=122)else false)).bind fun b1=>
 some b1
def uY:CE TE Tryz.prog I0:=AA [] Aa Ac 9 76 Tryz.f76 (Tryz.f76.body.getD .skip) .n [.k (.int .u8)] [.k (.bool)] (fun x=>TL x.1) Tryz.func76 rfl (by kernel_rfl)
def gQ:Option (Bool):=
 some true
def DZ (a0:AB) (afS:Int):Option ((Int)⊕(Unit⊕Bool)):=
 (if decide (afS<5) then
  (idx a0.Color.l afS).bind fun e11=>
  (idx a0.Color.l afS).bind fun e12=>
  (gd ((decide (e12<0))==false) (idx a0.Color.l afS)).bind fun e13=>
  (gd ((decide (e12<0))==false) (idx a0.Color.l afS)).bind fun e14=>
  (some (if decide (e12<0) then true else decide (9<e14))).bind fun b15=>
  (if b15 then
   some (.inr (.inr false))
  else
   some (.inl (Ad (afS+1))))
 else
  some (.inr (.inl ())))
def VI (a0:AB):Option (Bool):=
 (some (if decide (a0.Generic<0) then true else decide (99<a0.Generic))).bind fun b1=>
 (some (if b1 then true else decide (a0.X<0))).bind fun b2=>
 (some (if b2 then true else decide (2<a0.X))).bind fun b3=>
 (if b3 then
  some false
 else
  jn (fun(v:Unit)=>gQ) (fun jJ5=>
  (iter (fun(v:Int)=>DZ a0 v) FU (0:Int)).bind (Sum.elim (fun o0=>jJ5 ()) (fun o1=>some o1))))
def bB:CE TE Tryz.prog I0:=AA [] Aa Ac 9 43 Tryz.f43 (Tryz.f43.body.getD .skip) (.s .n (.s .n (.j ⟨[],[],[],[]⟩ (.s .n (.l ⟨[1],[(3, .c (.v (.k (.int .i64))))],[[1]],[]⟩ [(1,⟨[],[],[],[]⟩),(0,⟨[],[(2, .c (.v (.k (.bool))))],[],[]⟩)] .n)) .n))) [.s 45] [.k (.bool)] (fun x=>VI x.1) Tryz.func43 rfl (by kernel_rfl)
def Kz:Option ((List (List UInt8))):=
 some ([P4,Nf]:List (List UInt8))
def VJ:CE TE Tryz.prog I0:=AA [] Aa Ac 9 114 Tryz.f114 (Tryz.f114.body.getD .skip) .n [] [.k (.u_ 9)] (fun x=>Kz) Tryz.func114 rfl (by kernel_rfl)
def jX:Option (Int):=
 some (-1:Int)
def EP (a0:List (List UInt8)) (a1:List UInt8) (aam:Int):Option ((Int)⊕(Unit⊕Int)):=
 (if(decide (aam<(a0.length:Int))) then
  (idx a0 aam).bind fun e7=>
  (if e7==a1 then
   some (.inr (.inr aam))
  else
   some (.inl (Ad (aam+1))))
 else
  some (.inr (.inl ())))
def Mr (a0:List (List UInt8)) (a1:List UInt8):Option (Int):=
 jn (fun(v:Unit)=>jX) (fun jJ1=>
 (iter (fun(v:Int)=>EP a0 a1 v) FU (0:Int)).bind (Sum.elim (fun o0=>jJ1 ()) (fun o1=>some o1)))
def m9:CE TE Tryz.prog I0:=AA [] Aa Ac 9 113 Tryz.f113 (Tryz.f113.body.getD .skip) (.s .n (.j ⟨[],[],[],[]⟩ (.s .n (.l ⟨[0,1],[(5, .c (.v (.k (.int .i64))))],[],[]⟩ [(1,⟨[],[],[],[]⟩),(0,⟨[],[(4, .c (.v (.k (.int .i64))))],[],[]⟩)] .n)) .n)) [.k (.u_ 9), .k (.str)] [.k (.int .i64)] (fun x=>Mr x.1 x.2.1) Tryz.func113 rfl (by kernel_rfl)
def HV:Option ((List (List UInt8))):=
 some ([GF,Ir,Kt,Me,Mf,O5]:List (List UInt8))
def N2:CE TE Tryz.prog I0:=AA [] Aa Ac 9 115 Tryz.f115 (Tryz.f115.body.getD .skip) .n [] [.k (.u_ 9)] (fun x=>HV) Tryz.func115 rfl (by kernel_rfl)
def qL (afO:Int):Option (Bool):=
 some ((Int.tmod afO (2:Int))==(1:Int))
def qM (a1:Int) (ac6:Int) (ag2:Int):Option ((Int×Int)⊕(Int)):=
 (if decide (ag2<a1) then
  some (.inl ((Ad (Int.tdiv ac6 (2:Int))),(Ad (ag2+1))))
 else
  some (.inr ac6))
def Li (a0:Int) (a1:Int):Option (Bool):=
 jn (fun(v:Int)=>qL v) (fun K_=>
 (iter (fun(v:Int×Int)=>qM a1 v.1 v.2) FU (a0,(0:Int))).bind (fun o0=>K_ o0))
def gR:CE TE Tryz.prog I0:=AA [] Aa Ac 9 78 Tryz.f78 (Tryz.f78.body.getD .skip) (.s .n (.j ⟨[],[(0, .c (.v (.k (.int .i64))))],[],[]⟩ (.s .n (.l ⟨[1],[(0, .c (.v (.k (.int .i64)))),(5, .c (.v (.k (.int .i64))))],[],[]⟩ [(1,⟨[],[(0, .c (.v (.k (.int .i64))))],[],[]⟩)] .n)) .n)) [.k (.int .i64), .k (.int .i64)] [.k (.bool)] (fun x=>Li x.1 x.2.1) Tryz.func78 rfl (by kernel_rfl)
def Pf (a0:Int):Option (Bool):=
 (some (if decide (0<=a0) then decide (a0<=131071)else false)).bind fun b1=>
 some b1
def nc:CE TE Tryz.prog I0:=AA [] Aa Ac 9 45 Tryz.f45 (Tryz.f45.body.getD .skip) .n [.k (.int .i64)] [.k (.bool)] (fun x=>Pf x.1) Tryz.func45 rfl (by kernel_rfl)
def Jg (a0:AO):Option (Bool):=
 some ((Fk .i64 a0.aci.Types (1:Int)) != (0:Int))
def bC:CE TE Tryz.prog I0:=AA [] Aa Ac 9 46 Tryz.f46 (Tryz.f46.body.getD .skip) .n [.s 51] [.k (.bool)] (fun x=>Jg x.1) Tryz.func46 rfl (by kernel_rfl)
def jY:Option (Bool):=
 some true
def dQ (anr:Int) (alc:Int) (abD:Int):Option ((Int×Int×Int)⊕(Unit⊕Bool)):=
 (if decide (abD<6) then
  (some (if((Int.tmod anr (2:Int))==(1:Int)) then(Int.tmod alc (2:Int))==(1:Int)else false)).bind fun b15=>
  (if b15 then
   some (.inr (.inr false))
  else
   some (.inl ((Ad (Int.tdiv anr (2:Int))),(Ad (Int.tdiv alc (2:Int))),(Ad (abD+1)))))
 else
  some (.inr (.inl ())))
def EQ (a0:Int) (a1:Int) (a2:Int):Option (Bool):=
 (some (if decide (a0<0) then true else decide (a2<a0))).bind fun b1=>
 (some (if b1 then true else decide (a1<0))).bind fun b2=>
 (some (if b2 then true else decide (a2<a1))).bind fun b3=>
 (if b3 then
  some false
 else
  jn (fun(v:Unit)=>jY) (fun jJ5=>
  (iter (fun(v:Int×Int×Int)=>dQ v.1 v.2.1 v.2.2) FU (a0,a1,(0:Int))).bind (Sum.elim (fun o0=>jJ5 ()) (fun o1=>some o1))))
def ne:CE TE Tryz.prog I0:=AA [] Aa Ac 9 116 Tryz.f116 (Tryz.f116.body.getD .skip) (.s .n (.s .n (.j ⟨[],[],[],[]⟩ (.s .n (.l ⟨[],[(0, .c (.v (.k (.int .i64)))),(1, .c (.v (.k (.int .i64)))),(7, .c (.v (.k (.int .i64))))],[],[]⟩ [(1,⟨[],[],[],[]⟩),(0,⟨[],[(6, .c (.v (.k (.bool))))],[],[]⟩)] .n)) .n))) [.k (.int .i64), .k (.int .i64), .k (.int .i64)] [.k (.bool)] (fun x=>EQ x.1 x.2.1 x.2.2.1) Tryz.func116 rfl (by kernel_rfl)
def Jy (a0:Af):Option (Bool):=
 (some (if decide (a0.Kind<0) then true else decide (3<a0.Kind))).bind fun b1=>
 (some (if b1 then true else decide (a0.N<0))).bind fun b2=>
 (some (if b2 then true else decide (1000000<a0.N))).bind fun b3=>
 (if b3 then
  some false
 else
  (some (if a0.Kind != 0 then true else a0.N==0)).bind fun b5=>
  some b5)
def nf:CE TE Tryz.prog I0:=AA [] Aa Ac 9 117 Tryz.f117 (Tryz.f117.body.getD .skip) .n [.s 91] [.k (.bool)] (fun x=>Jy x.1) Tryz.func117 rfl (by kernel_rfl)
def Xa (ark:A1):Option (A1):=
 some ark
def TM (a0:A1) (K_:(A1)->Option (A1)) (an0:Bool):Option (A1):=
 (if an0 then
  K_ ({{{a0 with Kind:=(0:Int)}with N:=(0:Int)}with M:=(0:Int)})
 else
  K_ ({a0 with Kind:=(0:Int)}))
def Xb (a0:A1) (K_:(A1)->Option (A1)) (ap7:Bool):Option (A1):=
 (if ap7 then
  K_ ({{a0 with Kind:=(0:Int)}with Sub:=([]:List UInt8)})
 else
  (if a0.Kind==11 then
   K_ ({{a0 with Kind:=(0:Int)}with Filter:=(⟨0,0,0,0,0,0,0,[],0,0,(⟨0,0⟩:Af),(⟨0,0⟩:Af),(⟨0,0⟩:Af)⟩:Aj)})
  else
   jn (fun(v:Bool)=>TM a0 K_ v) (fun aaR=>
   (if a0.Kind==12 then
    aaR (a0.Kind==12)
   else
    aaR (a0.Kind==13)))))
def Xc (a0:A1) (K_:(A1)->Option (A1)) (aeF:Bool):Option (A1):=
 (if aeF then
  K_ ({{a0 with Kind:=(0:Int)}with N:=(0:Int)})
 else
  jn (fun(v:Bool)=>Xb a0 K_ v) (fun jJ7=>
  (if a0.Kind==4 then
   jJ7 (a0.Kind==4)
  else
   jJ7 (a0.Kind==5))))
def bD (a0:A1):Option (A1):=
 jn (fun(v:A1)=>Xa v) (fun K_=>
 jn (fun(v:Bool)=>Xc a0 K_ v) (fun jJ4=>
 (if a0.Kind==2 then
  jJ4 (a0.Kind==2)
 else
  (if a0.Kind==3 then
   jJ4 (a0.Kind==3)
  else
   (if a0.Kind==6 then
    jJ4 (a0.Kind==6)
   else
    (if a0.Kind==7 then
     jJ4 (a0.Kind==7)
    else
     (if a0.Kind==8 then
      jJ4 (a0.Kind==8)
     else
      jJ4 (a0.Kind==9))))))))
def qO:CE TE Tryz.prog I0:=AA [] Aa Ac 9 153 Tryz.f153 (Tryz.f153.body.getD .skip) (.s .n (.s .n (.s .n (.j ⟨[1,2],[],[[2]],[([1], .box [.v (.s 140)])]⟩ (.s .n (.j ⟨[1,2,7],[(8, .c (.v (.k (.bool))))],[[1],[2]],[]⟩ .n (.i .n (.j ⟨[1,2,7],[(16, .c (.v (.k (.bool))))],[[1],[2]],[]⟩ .n (.i .n (.s .n (.i .n (.j ⟨[1,2],[(24, .c (.v (.k (.bool))))],[[1],[2]],[]⟩ .n .n)))))))) .n)))) [.s 140] [.s 140] (fun x=>bD x.1) Tryz.func153 rfl (by kernel_rfl)
def Qc (a0:Int):Option (Bool):=
 (some (if decide (1<=a0) then decide (a0<=63)else false)).bind fun b1=>
 (some (if b1 then(Fk .i64 a0 (6:Int))==(0:Int)else false)).bind fun b2=>
 some b2
def ng:CE TE Tryz.prog I0:=AA [] Aa Ac 9 154 Tryz.f154 (Tryz.f154.body.getD .skip) .n [.k (.int .i64)] [.k (.bool)] (fun x=>Qc x.1) Tryz.func154 rfl (by kernel_rfl)
def jZ (a0:Int):Option (Bool):=
 (some (if decide (0<=a0) then decide (a0<=31)else false)).bind fun b1=>
 some b1
def yf:CE TE Tryz.prog I0:=AA [] Aa Ac 9 196 Tryz.f196 (Tryz.f196.body.getD .skip) .n [.k (.int .i64)] [.k (.bool)] (fun x=>jZ x.1) Tryz.func196 rfl (by kernel_rfl)
def Pg (a0:Int):Option ((List UInt8)):=
 (if a0==0 then
  some uV
 else
  (if a0==1 then
   some qx
  else
   (if a0==2 then
    some AaT
   else
    (if a0==3 then
     some xZ
    else
     (if a0==4 then
      some mS
     else
      some ([]:List UInt8))))))
def bG:CE TE Tryz.prog I0:=AA [] Aa Ac 9 197 Tryz.f197 (Tryz.f197.body.getD .skip) .n [.k (.int .i64)] [.k (.str)] (fun x=>Pg x.1) Tryz.func197 rfl (by kernel_rfl)
def gS:Option ((List (List UInt8))):=
 some ([Rv,Vq,Vr,Nh,O7,Vw,S8,Rx,Ni,Ry,Nj,Rz,RA,O9,dD,Nk,Xy]:List (List UInt8))
def nh:CE TE Tryz.prog I0:=AA [] Aa Ac 9 235 Tryz.f235 (Tryz.f235.body.getD .skip) .n [] [.k (.u_ 9)] (fun x=>gS) Tryz.func235 rfl (by kernel_rfl)
def QI:Option ((List (List UInt8))):=
 some ([([]:List UInt8),Pb,Ku,Hw,Nm,Nn]:List (List UInt8))
def XH:CE TE Tryz.prog I0:=AA [] Aa Ac 9 199 Tryz.f199 (Tryz.f199.body.getD .skip) .n [] [.k (.u_ 9)] (fun x=>QI) Tryz.func199 rfl (by kernel_rfl)
def TN:Option ((List (List UInt8))):=
 some ([([]:List UInt8),Vs,RB]:List (List UInt8))
def bH:CE TE Tryz.prog I0:=AA [] Aa Ac 9 200 Tryz.f200 (Tryz.f200.body.getD .skip) .n [] [.k (.u_ 9)] (fun x=>TN) Tryz.func200 rfl (by kernel_rfl)
def QJ:Option ((List (List UInt8))):=
 some ([([]:List UInt8),bb,Vt]:List (List UInt8))
def XI:CE TE Tryz.prog I0:=AA [] Aa Ac 9 201 Tryz.f201 (Tryz.f201.body.getD .skip) .n [] [.k (.u_ 9)] (fun x=>QJ) Tryz.func201 rfl (by kernel_rfl)
def TO:Option ((List (List UInt8))):=
 some ([([]:List UInt8),No,Je]:List (List UInt8))
def bI:CE TE Tryz.prog I0:=AA [] Aa Ac 9 202 Tryz.f202 (Tryz.f202.body.getD .skip) .n [] [.k (.u_ 9)] (fun x=>TO) Tryz.func202 rfl (by kernel_rfl)
def qP (afO:Int):Option (Bool):=
 some ((Int.tmod afO (2:Int))==(1:Int))
def bJ (a1:Int) (ac6:Int) (ag2:Int):Option ((Int×Int)⊕(Int)):=
 (if decide (ag2<a1) then
  some (.inl ((Ad (Int.tdiv ac6 (2:Int))),(Ad (ag2+1))))
 else
  some (.inr ac6))
def Lj (a0:Int) (a1:Int):Option (Bool):=
 jn (fun(v:Int)=>qP v) (fun K_=>
 (iter (fun(v:Int×Int)=>bJ a1 v.1 v.2) FU (a0,(0:Int))).bind (fun o0=>K_ o0))
def uZ:CE TE Tryz.prog I0:=AA [] Aa Ac 9 204 Tryz.f204 (Tryz.f204.body.getD .skip) (.s .n (.j ⟨[],[(0, .c (.v (.k (.int .i64))))],[],[]⟩ (.s .n (.l ⟨[1],[(0, .c (.v (.k (.int .i64)))),(5, .c (.v (.k (.int .i64))))],[],[]⟩ [(1,⟨[],[(0, .c (.v (.k (.int .i64))))],[],[]⟩)] .n)) .n)) [.k (.int .i64), .k (.int .i64)] [.k (.bool)] (fun x=>Lj x.1 x.2.1) Tryz.func204 rfl (by kernel_rfl)
def gT:Option ((List (List UInt8))):=
 some ([([]:List UInt8),Vu,Vv,jC]:List (List UInt8))
def ni:CE TE Tryz.prog I0:=AA [] Aa Ac 9 236 Tryz.f236 (Tryz.f236.body.getD .skip) .n [] [.k (.u_ 9)] (fun x=>gT) Tryz.func236 rfl (by kernel_rfl)
def HW (aqh:List UInt8):Option ((List UInt8)):=
 some aqh
def LD (aij:Int) (aeP:List UInt8):Option ((Int×(List UInt8))⊕((List UInt8))):=
 (if decide (0<aij) then
  (n_ (∀ n∈([IntKind.u8.wrap (IntKind.u64.wrap ((48:Int)+(Int.tmod aij (10:Int))))]:List (Int)),0<=n/\n<256)).bind fun u11=>
  (cat (JZ ([IntKind.u8.wrap (IntKind.u64.wrap ((48:Int)+(Int.tmod aij (10:Int))))]:List (Int))) aeP).bind fun s12=>
  some (.inl ((IntKind.u64.wrap (Int.tdiv aij (10:Int))),s12))
 else
  some (.inr aeP))
def KA (a0:Int):Option ((List UInt8)):=
 (n_ (∀ n∈([IntKind.u8.wrap (IntKind.u64.wrap ((48:Int)+(Int.tmod a0 (10:Int))))]:List (Int)),0<=n/\n<256)).bind fun u1=>
 (iter (fun(v:Int×(List UInt8))=>LD v.1 v.2) FU ((IntKind.u64.wrap (Int.tdiv a0 (10:Int))),(JZ ([IntKind.u8.wrap (IntKind.u64.wrap ((48:Int)+(Int.tmod a0 (10:Int))))]:List (Int))))).bind (fun o0=>HW o0)
def j6 (a0:Int) (r:(List UInt8)):Prop:=Ce Tryz.prog I0 208 [.c (.int .u64 a0)] (· =vS r)
theorem dR {a0:Int} {r:(List UInt8)} (h:KA a0=some r):j6 a0 r:=by
 refine Ce.bo Aa Tryz.func208 rfl Tryz.ntmps208 [.tmp 2] fun _ _ _ _=>?_;unfold KA at h;refine Gg [.a] (u [] []) (aN) ?_;obtain⟨u1,y0,h⟩:=bS h;refine Gg [.a,.a,.a,.a,.a,(.v (vS (JZ ([IntKind.u8.wrap (IntKind.u64.wrap ((48:Int)+(Int.tmod a0 (10:Int))))]:List (Int))))),.a] (u [] [(3,vS (JZ ([IntKind.u8.wrap (IntKind.u64.wrap ((48:Int)+(Int.tmod a0 (10:Int))))]:List (Int))))]) (aC (show (10:Int) ≠ 0 from(by decide))<|aC (show (H9 Tryz.prog 201=true/\Eb Tryz.prog 9=true)/\1=1/\KS (([IntKind.u8.wrap (IntKind.u64.wrap ((48:Int)+(Int.tmod a0 (10:Int))))]:List (Int)).flatMap (eI .u8))from⟨⟨by kernel_rfl,by kernel_rfl⟩,rfl,MR (Cz y0)⟩)<|aC (congrArg (fun z=>V.c (.str z)) (OF ([IntKind.u8.wrap (IntKind.u64.wrap ((48:Int)+(Int.tmod a0 (10:Int))))]:List (Int))))<|aN)<|Sj (X:=(List UInt8)) (fun v=>(sl 25 [(3,vS v)] [])) (fun v=>HW v=some r) ?_ ?_
 ·refine Gg (nA 3) (u [] [(0,.c (.int .u64 (IntKind.u64.wrap (Int.tdiv a0 (10:Int)))))]) (aC (show (10:Int) ≠ 0 from(by decide))<|aN)<|hB ?_;obtain⟨d1,q0,h⟩:=bS h;refine It (fun(v:Int×(List UInt8))=>(sl 25 [(0,.c (.int .u64 v.1)),(3,vS v.2)] [])) q0 (wT) ?_;rintro⟨i0,k0⟩ z0 j0 t0;replace j0:LD i0 k0=some z0:=j0;unfold LD at j0;refine hS<|Gg [.a,.a] (u [] [(13,vB (decide (0<i0)))]) (aN)<|iC j0 (fun j0=>?_) (fun j0=>?_)
  ·refine hK<|Tn<|hS<|hB ?_;obtain⟨i1,x0,o0,p0,j0⟩:=bS2 j0;refine Ge [.a,.a,.a,.a,.a,(.v (vS (JZ ([IntKind.u8.wrap (IntKind.u64.wrap ((48:Int)+(Int.tmod i0 (10:Int))))]:List (Int))))),.a,(.v (vS o0)),.a] (uo [] [(3,vS o0),(16,.c (.int .u64 i0)),(17,.c (.int .u64 (Int.tmod i0 (10:Int)))),(18,.c (.int .u64 (IntKind.u64.wrap ((48:Int)+(Int.tmod i0 (10:Int)))))),(19,.c (.int .u8 (IntKind.u8.wrap (IntKind.u64.wrap ((48:Int)+(Int.tmod i0 (10:Int))))))),(20,vO [20]),(21,vS (JZ ([IntKind.u8.wrap (IntKind.u64.wrap ((48:Int)+(Int.tmod i0 (10:Int))))]:List (Int)))),(22,vS k0),(23,vS o0)] [.e (I8 [20] 5 1 (eI .u8) ([IntKind.u8.wrap (IntKind.u64.wrap ((48:Int)+(Int.tmod i0 (10:Int))))]:List (Int)))]) (aC (show (10:Int) ≠ 0 from(by decide))<|aC (show (H9 Tryz.prog 201=true/\Eb Tryz.prog 9=true)/\1=1/\KS (([IntKind.u8.wrap (IntKind.u64.wrap ((48:Int)+(Int.tmod i0 (10:Int))))]:List (Int)).flatMap (eI .u8))from⟨⟨by kernel_rfl,by kernel_rfl⟩,rfl,MR (Cz x0)⟩)<|aC (congrArg (fun z=>V.c (.str z)) (OF ([IntKind.u8.wrap (IntKind.u64.wrap ((48:Int)+(Int.tmod i0 (10:Int))))]:List (Int))))<|aC (Ab3 p0)<|aC (congrArg (fun z=>V.c (.str z)) (Ab4 p0).symm)<|aN)<|qN<|Tn<|Ge (nA 3) (u [] [(0,.c (.int .u64 (IntKind.u64.wrap (Int.tdiv i0 (10:Int))))),(14,.c (.int .u64 i0)),(15,.c (.int .u64 (IntKind.u64.wrap (Int.tdiv i0 (10:Int)))))]) (aC (show (10:Int) ≠ 0 from(by decide))<|aN)<|Tn ⟨((IntKind.u64.wrap (Int.tdiv i0 (10:Int))),o0),(sI j0).symm,wT⟩
  refine hE<|Te ?_;obtain rfl:=t0 _ (sI j0).symm;refine Te<|qX<|Tn ⟨k0,h,wT⟩
 rintro m0 n0;replace n0:HW m0=some r:=n0;unfold HW at n0;exact Rg [.a,.a] (sl 25 [(2,vS m0)] []) (aN)<|hR<|bQ _ (congrArg vS (sI n0))def aiH:CE TE Tryz.prog I0:=⟨208,[.k (.int .u64)],[.k (.str)],fun x=>KA x.1,fun x r h=>Mc (by kernel_rfl) (dR (r:=r) h),[],fun h=>absurd rfl h,none,(fun _ h=>nomatch h),none,(fun _ _ h=>nomatch h)⟩
def Xd (aqg:List UInt8):Option ((List UInt8)):=
 some aqg
def Ny (a0:List (List UInt8)) (afR:Int) (an9:List UInt8):Option (((List UInt8)×Int)⊕((List UInt8))):=
 (idx a0 afR).bind fun e12=>
 (cat an9 e12).bind fun s13=>
 some (.inl (s13,(Ad (afR+1))))
def Xe (a0:List (List UInt8)) (a1:List UInt8) (ajW:List UInt8) (afR:Int):Option (((List UInt8)×Int)⊕((List UInt8))):=
 (if(decide (afR<(a0.length:Int))) then
  jn (fun(v:(List UInt8))=>Ny a0 afR v) (fun aaR=>
  (if decide (0<afR) then
   (cat ajW a1).bind fun s15=>
   aaR s15
  else
   aaR ajW))
 else
  some (.inr ajW))
def TP (a0:List (List UInt8)) (a1:List UInt8):Option ((List UInt8)):=
 jn (fun(v:(List UInt8))=>Xd v) (fun K_=>
 (iter (fun(v:(List UInt8)×Int)=>Xe a0 a1 v.1 v.2) FU (([]:List UInt8),(0:Int))).bind (fun o0=>K_ o0))
def qQ:CE TE Tryz.prog I0:=AA [] Aa Ac 9 207 Tryz.f207 (Tryz.f207.body.getD .skip) (.s .n (.s .n (.j ⟨[],[(5, .c (.v (.k (.str))))],[],[]⟩ (.s .n (.l ⟨[0,1],[(5, .c (.v (.k (.str)))),(6, .c (.v (.k (.int .i64))))],[],[]⟩ [(1,⟨[],[(5, .c (.v (.k (.str))))],[],[]⟩)] (.s .n (.s (.j ⟨[0,1,6],[(5, .c (.v (.k (.str))))],[],[]⟩ .n .n) .n)))) .n))) [.k (.u_ 9), .k (.str)] [.k (.str)] (fun x=>TP x.1 x.2.1) Tryz.func207 rfl (by kernel_rfl)
def Ix (a0:Int):Option ((List UInt8)):=
 (if a0==1 then
  some bc
 else
  (if a0==2 then
   some be
  else
   (if a0==3 then
    some mT
   else
    (if a0==4 then
     some W8
    else
     (if a0==5 then
      some bg
     else
      (if a0==6 then
       some gK
      else
       (if a0==7 then
        some gL
       else
        (if a0==8 then
         some gM
        else
         (if a0==9 then
          some gN
         else
          (if a0==10 then
           some bh
          else
           (if a0==11 then
            some sR
           else
            (if a0==12 then
             some gO
            else
             (if a0==13 then
              some gP
             else
              (if a0==14 then
               some bi
              else
               some ([]:List UInt8)))))))))))))))
def bK:CE TE Tryz.prog I0:=AA [] Aa Ac 9 120 Tryz.f120 (Tryz.f120.body.getD .skip) .n [.k (.int .i64)] [.k (.str)] (fun x=>Ix x.1) Tryz.func120 rfl (by kernel_rfl)
def KB (a0:Int):Option (Bool):=
 (some (if a0==8 then true else a0==9)).bind fun b1=>
 (some (if b1 then true else a0==10)).bind fun b2=>
 (some (if b2 then true else a0==11)).bind fun b3=>
 (some (if b3 then true else a0==12)).bind fun b4=>
 (some (if b4 then true else a0==13)).bind fun b5=>
 some b5
def TQ:CE TE Tryz.prog I0:=AA [] Aa Ac 9 121 Tryz.f121 (Tryz.f121.body.getD .skip) .n [.k (.int .i64)] [.k (.bool)] (fun x=>KB x.1) Tryz.func121 rfl (by kernel_rfl)
def Jz (a0:Au):Option (Bool):=
 (some (if a0.q_ != 0 then true else a0.o_ != 0)).bind fun b1=>
 (if b1 then
  some false
 else
  (some (if a0.Do==2 then true else a0.Do==4)).bind fun b3=>
  (if b3 then
   (some (if decide (1<=a0.N) then decide (a0.N<=99)else false)).bind fun b5=>
   some b5
  else
   some (a0.N==0)))
def nj:CE TE Tryz.prog I0:=AA [] Aa Ac 9 124 Tryz.f124 (Tryz.f124.body.getD .skip) .n [.s 102] [.k (.bool)] (fun x=>Jz x.1) Tryz.func124 rfl (by kernel_rfl)
def Ms (a0:Int):Option ((List UInt8)):=
 (some (if decide (a0<1) then true else decide (26<a0))).bind fun b1=>
 (if b1 then
  some ([]:List UInt8)
 else
  (idx ([Np,Ld,SX,SY,Le,SZ,S0,S1,P7,YQ,S2,Nq,YR,S3,Lf,S4,Nr,Fs,S5,S6,Ns,Nt,S7,YS,Nu,P8]:List (List UInt8)) (Ad (a0 - 1))).bind fun e3=>
  (idx ([Np,Ld,SX,SY,Le,SZ,S0,S1,P7,YQ,S2,Nq,YR,S3,Lf,S4,Nr,Fs,S5,S6,Ns,Nt,S7,YS,Nu,P8]:List (List UInt8)) (Ad (a0 - 1))).bind fun e4=>
  some e4)
def qR:CE TE Tryz.prog I0:=AA [] Aa Ac 9 160 Tryz.f160 (Tryz.f160.body.getD .skip) .n [.k (.int .i64)] [.k (.str)] (fun x=>Ms x.1) Tryz.func160 rfl (by kernel_rfl)
def j8 (anY:Bool):Option ((List UInt8)):=
 (if anY then
  some ([]:List UInt8)
 else
  some Ael)
def nk (a0:Int) (ap9:Bool):Option ((List UInt8)):=
 (if ap9 then
  some AaV
 else
  (if a0==12 then
   some AaW
  else
   (if a0==13 then
    some Aek
   else
    (if a0==14 then
     some Af7
    else
     (if a0==18 then
      some AaX
     else
      (if a0==20 then
       some Af8
      else
       (if a0==21 then
        some Af9
       else
        jn (fun(v:Bool)=>j8 v) (fun adl=>
        (if a0==23 then
         adl (a0==23)
        else
         adl (a0==24))))))))))
def nl (a0:Int) (ase:Bool):Option ((List UInt8)):=
 (if ase then
  some Af6
 else
  (if a0==3 then
   some Aej
  else
   jn (fun(v:Bool)=>nk a0 v) (fun jJ6=>
   (if a0==10 then
    jJ6 (a0==10)
   else
    jJ6 (a0==11)))))
def nm (a0:Int):Option ((List UInt8)):=
 jn (fun(v:Bool)=>nl a0 v) (fun K_=>
 (if a0==2 then
  K_ (a0==2)
 else
  (if a0==8 then
   K_ (a0==8)
  else
   (if a0==9 then
    K_ (a0==9)
   else
    (if a0==15 then
     K_ (a0==15)
    else
     (if a0==16 then
      K_ (a0==16)
     else
      (if a0==17 then
       K_ (a0==17)
      else
       K_ (a0==25))))))))
def qS:CE TE Tryz.prog I0:=AA [] Aa Ac 9 209 Tryz.f209 (Tryz.f209.body.getD .skip) (.s .n (.s (.s .n (.j ⟨[3],[(4, .c (.v (.k (.bool))))],[],[]⟩ .n (.i .n (.s .n (.i .n (.j ⟨[3],[(14, .c (.v (.k (.bool))))],[],[]⟩ .n (.i .n (.s .n (.i .n (.s .n (.i .n (.s .n (.i .n (.s .n (.i .n (.s .n (.i .n (.s .n (.i .n (.j ⟨[],[(29, .c (.v (.k (.bool))))],[],[]⟩ .n .n)))))))))))))))))))) .n)) [.k (.int .i64)] [.k (.str)] (fun x=>nm x.1) Tryz.func209 rfl (by kernel_rfl)
def Nz (a0:Int):Option (Bool):=
 (some (if a0==3 then true else a0==8)).bind fun b1=>
 some b1
def bL:CE TE Tryz.prog I0:=AA [] Aa Ac 9 210 Tryz.f210 (Tryz.f210.body.getD .skip) .n [.k (.int .i64)] [.k (.bool)] (fun x=>Nz x.1) Tryz.func210 rfl (by kernel_rfl)
def Ph (a0:Int):Option ((List UInt8)):=
 (if a0==0 then
  some ya
 else
  (if a0==1 then
   some uW
  else
   (if a0==2 then
    some qy
   else
    some ([]:List UInt8))))
def bM:CE TE Tryz.prog I0:=AA [] Aa Ac 9 163 Tryz.f163 (Tryz.f163.body.getD .skip) .n [.k (.int .i64)] [.k (.str)] (fun x=>Ph x.1) Tryz.func163 rfl (by kernel_rfl)
def nq (al7:AB):Option (AB):=
 some al7
def j9 (a0:A6 (Int)) (abm:Int) (ann:AB):Option ((Int×AB)⊕(AB)):=
 (if decide (abm<5) then
  (idx a0.l (Ad (abm+1))).bind fun e13=>
  (idx a0.l (Ad (abm+1))).bind fun e14=>
  (idx ann.Color.l abm).bind fun e15=>
  (idx (ann.Color.l) abm).bind fun e16=>
  some (.inl ((Ad (abm+1)),({ann with Color:=ann.Color.set (abm).toNat e14})))
 else
  some (.inr ann))
def bN (a0:A6 (Int)):Option (AB):=
 (idx a0.l (0:Int)).bind fun e1=>
 (idx a0.l (0:Int)).bind fun e2=>
 jn (fun(v:AB)=>nq v) (fun jJ4=>
 (iter (fun(v:Int×AB)=>j9 a0 v.1 v.2) FU ((0:Int),(⟨e2,0,(⟨0,0,0,0,0⟩:A5 (Int))⟩:AB))).bind (fun o0=>jJ4 o0))
def qT:CE TE Tryz.prog I0:=AA [] Aa Ac 9 212 Tryz.f212 (Tryz.f212.body.getD .skip) (.s .n (.s .n (.j ⟨[2,3],[],[[2]],[([3], .box [.v (.s 45)])]⟩ (.s .n (.l ⟨[1,2,3],[(4, .c (.v (.k (.int .i64))))],[[1],[2]],[([3], .box [.v (.s 45)])]⟩ [(1,⟨[2,3],[],[[2]],[([3], .box [.v (.s 45)])]⟩)] .n)) .n))) [.s 57] [.s 45] (fun x=>bN x.1) Tryz.func212 rfl (by kernel_rfl)
def bO (a0:AO):Option (Bool):=
 (some (if a0.aci.Types==2 then true else a0.aci.Types==4)).bind fun b1=>
 some b1
def qU:CE TE Tryz.prog I0:=AA [] Aa Ac 9 48 Tryz.f48 (Tryz.f48.body.getD .skip) .n [.s 51] [.k (.bool)] (fun x=>bO x.1) Tryz.func48 rfl (by kernel_rfl)
def Xf:Option (Int):=
 some (-1:Int)
def Gk (a0:List (AO)) (a1:List UInt8) (aam:Int):Option ((Int)⊕(Unit⊕Int)):=
 (if(decide (aam<(a0.length:Int))) then
  (idx a0 aam).bind fun e7=>
  (if e7.Name==a1 then
   some (.inr (.inr aam))
  else
   some (.inl (Ad (aam+1))))
 else
  some (.inr (.inl ())))
def TR (a0:List (AO)) (a1:List UInt8):Option (Int):=
 jn (fun(v:Unit)=>Xf) (fun jJ1=>
 (iter (fun(v:Int)=>Gk a0 a1 v) FU (0:Int)).bind (Sum.elim (fun o0=>jJ1 ()) (fun o1=>some o1)))
def qV:CE TE Tryz.prog I0:=AA [] Aa Ac 9 25 Tryz.f25 (Tryz.f25.body.getD .skip) (.s .n (.j ⟨[],[],[],[]⟩ (.s .n (.l ⟨[0,1],[(5, .c (.v (.k (.int .i64))))],[],[]⟩ [(1,⟨[],[],[],[]⟩),(0,⟨[],[(4, .c (.v (.k (.int .i64))))],[],[]⟩)] .n)) .n)) [.k (.u_ 51), .k (.str)] [.k (.int .i64)] (fun x=>TR x.1 x.2.1) Tryz.func25 rfl (by kernel_rfl)
def TS:Option (Bool):=
 some false
def ER (a0:List (AO)) (a1:List UInt8) (aam:Int):Option ((Int)⊕(Unit⊕Bool)):=
 (if(decide (aam<(a0.length:Int))) then
  (idx a0 aam).bind fun e7=>
  (gd ((e7.Name==a1)==true) (idx a0 aam)).bind fun e8=>
  (some (if e7.Name==a1 then e8.Token else false)).bind fun b9=>
  (if b9 then
   some (.inr (.inr true))
  else
   some (.inl (Ad (aam+1))))
 else
  some (.inr (.inl ())))
def Qd (a0:List (AO)) (a1:List UInt8):Option (Bool):=
 jn (fun(v:Unit)=>TS) (fun jJ1=>
 (iter (fun(v:Int)=>ER a0 a1 v) FU (0:Int)).bind (Sum.elim (fun o0=>jJ1 ()) (fun o1=>some o1)))
def nr:CE TE Tryz.prog I0:=AA [] Aa Ac 9 49 Tryz.f49 (Tryz.f49.body.getD .skip) (.s .n (.j ⟨[],[],[],[]⟩ (.s .n (.l ⟨[0,1],[(5, .c (.v (.k (.int .i64))))],[],[]⟩ [(1,⟨[],[],[],[]⟩),(0,⟨[],[(4, .c (.v (.k (.bool))))],[],[]⟩)] .n)) .n)) [.k (.u_ 51), .k (.str)] [.k (.bool)] (fun x=>Qd x.1 x.2.1) Tryz.func49 rfl (by kernel_rfl)
end Go.PL
