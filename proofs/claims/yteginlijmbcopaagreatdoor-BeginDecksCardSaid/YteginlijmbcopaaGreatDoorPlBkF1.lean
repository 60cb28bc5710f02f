/- Functions of the program, as partial functions in Lean, with proofs. -/
import Derived.Test.YteginlijmbcopaaGreatDoorPlBkB
namespace Go.PL
open Go Go.RowKit Go.Proofs
set_option maxRecDepth 100000
set_option linter.all false
set_option maxHeartbeats 4000000
attribute [local irreducible] Ad Cx Cr
def VU (aqr:List (Int)):Option ((List (Int))):=
 some aqr
def Uc (ae7:Int) (asQ:List (Int)):Option ((Int×(List (Int)))⊕((List (Int)))):=
 some (.inl ((Ac (ae7+1)),asQ))
def VV (a0:Aa) (ae7:Int) (alJ:List (Int)):Option ((Int×(List (Int)))⊕((List (Int)))):=
 (if(decide (ae7<(a0.bk.length:Int))) then
  jn (fun(v:(List (Int)))=>Uc ae7 v) (fun ahb=>
  (idx a0.bk ae7).bind fun e13=>
  (if !e13.anC then
   (app 8 alJ ([ae7]:List (Int))).bind fun l15=>
   ahb l15
  else
   ahb alJ))
 else
  some (.inr alJ))
def Nc (a0:Aa):Option ((List (Int))):=
 jn (fun(v:(List (Int)))=>VU v) (fun jJ2=>
 (iter (fun(v:Int×(List (Int)))=>VV a0 v.1 v.2) FU ((0:Int),([]:List (Int)))).bind (fun o0=>jJ2 o0))
def OM:Cj:=mC [] 76 Tryz.f76 (.s .n (.s .n (.j ⟨[],[(3, .c (.c (.j_ [3])))],[],[([3], .row 3)]⟩ (.s .n (.l ⟨[7,8],[(3, .c (.c (.j_ [3]))),BS 9],[],[([3], .row 3)]⟩ [(1,⟨[],[(3, .c (.c (.j_ [3])))],[],[([3], .row 3)]⟩)] (.s .n (.s .n (.j ⟨[7,8,9],[(3, .c (.c (.j_ [3])))],[],[([3], .row 3)]⟩ .n .n))))) .n))) [.s 36] [.k (.t_ 3)] (fun x=>Nc x.1) Tryz.func76 (by kernel_rfl)
def LN (a0:Int):Option (Bool):=
 some (a0 != a0)
def VW:Cj:=mC [] 162 Tryz.f162 .n [.k (.int .i64)] [.k (.bool)] (fun x=>LN x.1) Tryz.func162 (by kernel_rfl)
def Mw:Option (Int):=
 some (-1:Int)
def Mx (a0:List (Int)) (a1:Int) (aga:Int):Option ((Int)⊕(Unit⊕Int)):=
 (if(decide (aga<(a0.length:Int))) then
  (idx a0 aga).bind fun e7=>
  (if a1==e7 then
   some (.inr (.inr aga))
  else
   some (.inl (Ac (aga+1))))
 else
  some (.inr (.inl ())))
def EQ (a0:List (Int)) (a1:Int):Option (Int):=
 jn (fun(v:Unit)=>Mw) (fun jJ1=>
 (iter (fun(v:Int)=>Mx a0 a1 v) FU (0:Int)).bind (Sum.elim (fun o0=>jJ1 ()) (fun o1=>some o1)))
def G6:Cj:=mC [] 115 Tryz.f115 (.s .n (.j M5 (.s .n (.l ⟨[0,1,7],[BS 8],[],[]⟩ [(1,M5),(0,⟨[],[BS 4],[],[]⟩)] .n)) .n)) [.k (.t_ 3), .k (.int .i64)] [.k (.int .i64)] (fun x=>EQ x.1 x.2.1) Tryz.func115 (by kernel_rfl)
def az (asl:Int):Option (Int):=
 some asl
def aA (jJ2:(Int)->Option (Int)):Option (Int):=
 jJ2 (-1:Int)
def If (a0:Aa) (a1:Int) (ae8:Int):Option ((Int)⊕(Unit⊕Int)):=
 (if(decide (ae8<(a0.b_.length:Int))) then
  (idx a0.b_ ae8).bind fun e9=>
  (if e9.Id==a1 then
   some (.inr (.inr ae8))
  else
   some (.inl (Ac (ae8+1))))
 else
  some (.inr (.inl ())))
def QO (a0:Aa) (a1:Int):Option (Int):=
 jn (fun(v:Int)=>az v) (fun jJ2=>
 jn (fun(v:Unit)=>aA jJ2) (fun jJ3=>
 (iter (fun(v:Int)=>If a0 a1 v) FU (0:Int)).bind (Sum.elim (fun o0=>jJ3 ()) (fun o1=>jJ2 o1))))
def gD:Cj:=mC [] 163 Tryz.f163 (.s .n (.s (.r [] [] (.j 3 ⟨[],[BS 8],[],[]⟩ (.s .n (.j ⟨[],[],[[2],[3]],[]⟩ (.s .n (.l ⟨[0,1,7],[BS 8],[[2],[3]],[]⟩ [(1,⟨[],[],[[2],[3]],[]⟩),(0,⟨[],[BS 4],[[2],[3]],[]⟩)] (.s .n (.s .n (.s (.s .n (.s (.r [] [] (.c 5 .n .n)) .n)) .n))))) .n)) .n)) .n)) [.s 36, .k (.int .i64)] [.k (.int .i64)] (fun x=>QO x.1 x.2.1) Tryz.func163 (by kernel_rfl)
def aD (a0:Aw) (aqb:Bool):Option (Bool):=
 (if aqb then
  some ((a0.Options.length:Int)==0)
 else if a0.Kind==3 then
  (some (if a0.adI==0 then true else a0.adI==(a0.Options.length:Int))).bind fun b8=>
  (some (if a0.adI==a0.anB then b8 else false)).bind fun b9=>
  some b9
 else if a0.Kind==5 then
  some (a0.adI==a0.anB)
 else
  some true)
def aE (a0:Aw) (asi:Bool):Option (Bool):=
 (if asi then
  some (decide ((a0.Options.length:Int)<=1))
 else
  jn (fun(v:Bool)=>aD a0 v) (fun jJ5=>
  (if a0.Kind==6 then
   jJ5 (a0.Kind==6)
  else
   jJ5 (a0.Kind==7))))
def Nd (a0:Aw):Option (Bool):=
 jn (fun(v:Bool)=>aE a0 v) (fun jJ2=>
 (if a0.Kind==1 then
  jJ2 (a0.Kind==1)
 else if a0.Kind==2 then
  jJ2 (a0.Kind==2)
 else if a0.Kind==9 then
  jJ2 (a0.Kind==9)
 else if a0.Kind==10 then
  jJ2 (a0.Kind==10)
 else if a0.Kind==11 then
  jJ2 (a0.Kind==11)
 else if a0.Kind==4 then
  jJ2 (a0.Kind==4)
 else
  jJ2 (a0.Kind==8)))
def Sh:Cj:=mC [] 79 Tryz.f79 (.s .n (.s .n (.s (.s .n (.j ⟨[1,3,8],[JL 9],[[1]],[]⟩ .n (.i .n (.j ⟨[1,3,8],[JL 19],[[1]],[]⟩ .n .n)))) .n))) [.s 54] [.k (.bool)] (fun x=>Nd x.1) Tryz.func79 (by kernel_rfl)
def gE (aqr:List (Int)):Option ((List (Int))):=
 some aqr
def gG (a0:Int) (ams:Int) (alJ:List (Int)):Option ((Int×(List (Int)))⊕((List (Int)))):=
 (if decide (ams<a0) then
  (app 8 alJ ([ams]:List (Int))).bind fun l11=>
  some (.inl ((Ac (ams+1)),l11))
 else
  some (.inr alJ))
def Ud (a0:Int):Option ((List (Int))):=
 jn (fun(v:(List (Int)))=>gE v) (fun jJ2=>
 (iter (fun(v:Int×(List (Int)))=>gG a0 v.1 v.2) FU ((0:Int),([]:List (Int)))).bind (fun o0=>jJ2 o0))
def lb:Cj:=mC [] 121 Tryz.f121 (.s .n (.s .n (.j ⟨[],[(3, .c (.c (.j_ [3])))],[],[([3], .row 3)]⟩ (.s .n (.l ⟨[5],[(3, .c (.c (.j_ [3]))),BS 6],[],[([3], .row 3)]⟩ [(1,⟨[],[(3, .c (.c (.j_ [3])))],[],[([3], .row 3)]⟩)] .n)) .n))) [.k (.int .i64)] [.k (.t_ 3)] (fun x=>Ud x.1) Tryz.func121 (by kernel_rfl)
def Bg (a0:List (Bl)):Option (List (Bl)):=if a0.length*24<=140737488355328/\a0.length<=maxLen then some a0 else none
theorem KR {a0 r:List (Bl)} (h:Bg a0=some r):BW Tryz.prog I0 48 [vL (BA) a0] 82 3 (fun len cs=>len=r.length/\cs=r.flatMap (BA)):=by
 refine BW.of (t:=2) (m:=7) BT (by kernel_rfl) Tryz.func48 rfl rfl Tryz.ntmps48 ?_;intro w0 av old gv;unfold Bg at h;split at h
 ·rename_i hb;injection h with h;subst h;refine Rg [.a] (sl 7 [(0,vL (BA) a0)] []) (aN) ?_;have hr:app 24 ([]:List (Bl)) a0=some a0:=by unfold app;rw [if_pos ⟨by simpa using hb.1,by simpa using hb.2⟩];rfl
  refine Ad.seq ?_;refine Ad.region ?_;refine Rp 1 [.a] (sl 7 [(0,vL (BA) a0),(3,vL (BA) a0)] []) (aN) ?_;refine Run.inl rfl rfl (DL.clip (len:=a0.length) (cs:=a0.flatMap (BA)) 82 3 4 rfl rfl ?_);refine Rw [.a,(.e a0.length (a0.flatMap (BA))), .a] (sl 7 [(0,vL (BA) a0),(2, .c (.j_ [4])),(3,vL (BA) a0),(5,vL (BA) a0),(6, .c (.j_ [4]))] [Jd [4] 82 3 (BA) a0]) (aC (show (a0.flatMap (BA)).length =a0.length*3 from BO (enc:=BA) (n:=3) oe _)<|aC (rx hr (BA))<|aC (Kf hr)<|aN) ?_;refine Tn ?_;refine Ad.ret ?_;exact⟨.inr rfl, .inl ⟨[4],Jd [4] 82 3 (BA) a0,a0.length,by kernel_rfl,by kernel_rfl,by kernel_rfl,AV _ (fun _=>rfl) _,⟨rfl,rfl⟩⟩⟩
 ·cases h
def GH:CE TE Tryz.prog I0:=VO 48 [.k (.t_ 82)] 82 (fun x=>Bg x.1) (fun x r h=>IC (by kernel_rfl) (KR (r:=r) h))
def VX (a0:Aw) (a1:List (Int)) (amA:Int):Option (Bool):=
 (some (if((a1.length:Int)==(a0.Options.length:Int)) then amA==a0.N else false)).bind fun b3=>
 some b3
def Ue (a1:List (Int)) (ajg:Int) (akb:Int):Option ((Int×Int)⊕(Int⊕Bool)):=
 (if(decide (akb<(a1.length:Int))) then
  (idx a1 akb).bind fun e12=>
  (some (if decide (e12<0) then true else decide (1000000<e12))).bind fun b13=>
  (if b13 then
   some (.inr (.inr false))
  else
   some (.inl ((Ac (ajg+e12)),(Ac (akb+1)))))
 else
  some (.inr (.inl ajg)))
def Si (a0:Aw) (a1:List (Int)):Option (Bool):=
 jn (fun(v:Int)=>VX a0 a1 v) (fun jJ2=>
 (iter (fun(v:Int×Int)=>Ue a1 v.1 v.2) FU ((0:Int),(0:Int))).bind (Sum.elim (fun o0=>jJ2 o0) (fun o1=>some o1)))
def Y4:Cj:=mC [] 124 Tryz.f124 (.s .n (.s .n (.j ⟨[1,2],[BS 5],[[2]],[]⟩ (.s .n (.l ⟨[1,2,8,9],[BS 5,BS 10],[[2]],[]⟩ [(1,⟨[1,2],[BS 5],[[2]],[]⟩),(0,⟨[],[JL 4],[],[]⟩)] .n)) .n))) [.s 54, .k (.t_ 3)] [.k (.bool)] (fun x=>Si x.1 x.2.1) Tryz.func124 (by kernel_rfl)
def G7 (a0:Int) (a1:Int) (a2:Int):Option (Bool):=
 (some (if decide (a1<=a0) then decide (a0<=a2)else false)).bind fun b1=>
 some b1
def Sk:Cj:=mC [] 49 Tryz.f49 .n [.k (.int .i64), .k (.int .i64), .k (.int .i64)] [.k (.bool)] (fun x=>G7 x.1 x.2.1 x.2.2.1) Tryz.func49 (by kernel_rfl)
def gH:Option (Bool):=
 some true
def gI (a0:A6 (Int)) (ab1:Int):Option ((Int)⊕(Unit⊕Bool)):=
 (if decide (ab1<6) then
  (idx a0.l ab1).bind fun e7=>
  (idx a0.l ab1).bind fun e8=>
  (gd ((decide (e8<0))==false) (idx a0.l ab1)).bind fun e9=>
  (gd ((decide (e8<0))==false) (idx a0.l ab1)).bind fun e10=>
  (some (if decide (e8<0) then true else decide (1000000<e10))).bind fun b11=>
  (if b11 then
   some (.inr (.inr false))
  else
   some (.inl (Ac (ab1+1))))
 else
  some (.inr (.inl ())))
def Uf (a0:A6 (Int)):Option (Bool):=
 jn (fun(v:Unit)=>gH) (fun jJ1=>
 (iter (fun(v:Int)=>gI a0 v) FU (0:Int)).bind (Sum.elim (fun o0=>jJ1 ()) (fun o1=>some o1)))
def lc:Cj:=mC [] 90 Tryz.f90 (.s .n (.j M5 (.s .n (.l ⟨[1],[BS 3],[[1]],[]⟩ [(1,M5),(0,⟨[],[JL 2],[],[]⟩)] .n)) .n)) [.s 59] [.k (.bool)] (fun x=>Uf x.1) Tryz.func90 (by kernel_rfl)
def gJ:Option (Int):=
 some (-1:Int)
def Nf (a0:Aa) (a1:Int) (aiM:Int):Option ((Int)⊕(Unit⊕Int)):=
 (if(decide (aiM<(a0.b_.length:Int))) then
  (idx a0.b_ aiM).bind fun e7=>
  (if e7.Id==a1 then
   some (.inr (.inr aiM))
  else
   some (.inl (Ac (aiM+1))))
 else
  some (.inr (.inl ())))
def Ug (a0:Aa) (a1:Int):Option (Int):=
 jn (fun(v:Unit)=>gJ) (fun jJ1=>
 (iter (fun(v:Int)=>Nf a0 a1 v) FU (0:Int)).bind (Sum.elim (fun o0=>jJ1 ()) (fun o1=>some o1)))
def lf:Cj:=mC [] 222 Tryz.f222 (.s .n (.j M5 (.s .n (.l ⟨[1,2],[BS 5],[[2]],[]⟩ [(1,M5),(0,⟨[],[BS 4],[],[]⟩)] .n)) .n)) [.s 36, .k (.int .i64)] [.k (.int .i64)] (fun x=>Ug x.1 x.2.1) Tryz.func222 (by kernel_rfl)
def gK (aqy:Int):Option (Int):=
 some aqy
def LO (acn:Int) (aoq:Int):Option ((Int×Int)⊕(Int)):=
 some (.inl (aoq,(Ac (acn+1))))
def G8 (a0:List (Int)) (a1:Int) (akB:Int) (acn:Int):Option ((Int×Int)⊕(Int)):=
 (if(decide (acn<(a0.length:Int))) then
  jn (fun(v:Int)=>LO acn v) (fun aa9=>
  (idx a0 acn).bind fun e12=>
  (if e12==a1 then
   aa9 (Ac (akB+1))
  else
   aa9 akB))
 else
  some (.inr akB))
def JO (a0:List (Int)) (a1:Int):Option (Int):=
 jn (fun(v:Int)=>gK v) (fun jJ2=>
 (iter (fun(v:Int×Int)=>G8 a0 a1 v.1 v.2) FU ((0:Int),(0:Int))).bind (fun o0=>jJ2 o0))
def lg:Cj:=mC [] 132 Tryz.f132 (.s .n (.s .n (.j ⟨[],[BS 5],[],[]⟩ (.s .n (.l ⟨[0,1],[BS 5,BS 6],[],[]⟩ [(1,⟨[],[BS 5],[],[]⟩)] (.s .n (.j ⟨[0,1,6],[BS 5],[],[]⟩ .n .n)))) .n))) [.k (.t_ 3), .k (.int .i64)] [.k (.int .i64)] (fun x=>JO x.1 x.2.1) Tryz.func132 (by kernel_rfl)
def lh (a0:List (Int)) (a1:Int) (r:Int):Prop:=BV Tryz.prog I0 132 [vL (eI .i64) a0,vI a1] (· =vI r)
theorem Sl {a0:List (Int)} {a1:Int} {r:Int} (h:JO a0 a1=some r):lh a0 a1 r:=IC (by kernel_rfl) (lg.ok (a0,a1,()) r h)
def sU:Option (Bool):=
 some true
def sV (a0:A3 (Int)) (ab1:Int):Option ((Int)⊕(Unit⊕Bool)):=
 (if decide (ab1<3) then
  (idx a0.l ab1).bind fun e7=>
  (idx a0.l ab1).bind fun e8=>
  (gd ((decide (e8<0))==false) (idx a0.l ab1)).bind fun e9=>
  (gd ((decide (e8<0))==false) (idx a0.l ab1)).bind fun e10=>
  (some (if decide (e8<0) then true else decide (1000000<e10))).bind fun b11=>
  (if b11 then
   some (.inr (.inr false))
  else
   some (.inl (Ac (ab1+1))))
 else
  some (.inr (.inl ())))
def oG (a0:A3 (Int)):Option (Bool):=
 jn (fun(v:Unit)=>sU) (fun jJ1=>
 (iter (fun(v:Int)=>sV a0 v) FU (0:Int)).bind (Sum.elim (fun o0=>jJ1 ()) (fun o1=>some o1)))
def wt:Cj:=mC [] 133 Tryz.f133 (.s .n (.j M5 (.s .n (.l ⟨[1],[BS 3],[[1]],[]⟩ [(1,M5),(0,⟨[],[JL 2],[],[]⟩)] .n)) .n)) [.s 68] [.k (.bool)] (fun x=>oG x.1) Tryz.func133 (by kernel_rfl)
def Y5 (a0:Ag):Option (Ag):=
 some ({{{a0 with ajc:=(-1:Int)}with alC:=false}with ajb:=(0:Int)})
def oH:Cj:=mC [] 134 Tryz.f134 .n [.s 70] [.s 70] (fun x=>Y5 x.1) Tryz.func134 (by kernel_rfl)
def Uh (a0:Ag):Option (Ag):=
 some ({{{a0 with aja:=(0:Int)}with anD:=false}with ai6:=(0:Int)})
def li:Cj:=mC [] 135 Tryz.f135 .n [.s 70] [.s 70] (fun x=>Uh x.1) Tryz.func135 (by kernel_rfl)
def aI (aqo:Int):Option (Int):=
 some aqo
def Y6 (acn:Int) (aon:Int):Option ((Int×Int)⊕(Int)):=
 some (.inl (aon,(Ac (acn+1))))
def aJ (a0:Aa) (a1:Int) (akq:Int) (acn:Int):Option ((Int×Int)⊕(Int)):=
 (if(decide (acn<(a0.Stack.length:Int))) then
  jn (fun(v:Int)=>Y6 acn v) (fun aa9=>
  (idx a0.Stack acn).bind fun e12=>
  (gd ((e12.Kind==1)==true) (idx a0.Stack acn)).bind fun e13=>
  (some (if e12.Kind==1 then e13.Id==a1 else false)).bind fun b14=>
  (if b14 then
   aa9 (Ac (akq+1))
  else
   aa9 akq))
 else
  some (.inr akq))
def QP (a0:Aa) (a1:Int):Option (Int):=
 jn (fun(v:Int)=>aI v) (fun jJ2=>
 (iter (fun(v:Int×Int)=>aJ a0 a1 v.1 v.2) FU ((0:Int),(0:Int))).bind (fun o0=>jJ2 o0))
def gL:Cj:=mC [] 136 Tryz.f136 (.s .n (.s .n (.j ⟨[],[BS 5],[],[]⟩ (.s .n (.l ⟨[1,2],[BS 5,BS 6],[[2]],[]⟩ [(1,⟨[],[BS 5],[],[]⟩)] (.s .n (.j ⟨[1,2,6],[BS 5],[[2]],[]⟩ .n .n)))) .n))) [.s 36, .k (.int .i64)] [.k (.int .i64)] (fun x=>QP x.1 x.2.1) Tryz.func136 (by kernel_rfl)
def gM (a0:Aa) (a1:Int) (r:Int):Prop:=BV Tryz.prog I0 136 [vA Db a0,vI a1] (· =vI r)
theorem aK {a0:Aa} {a1:Int} {r:Int} (h:QP a0 a1=some r):gM a0 a1 r:=IC (by kernel_rfl) (gL.ok (a0,a1,()) r h)
def II (a0:List (Int)):Option ((List (Int))):=
 (app 8 ([]:List (Int)) a0).bind fun l1=>
 some l1
def oI:Cj:=mC [] 83 Tryz.f83 .n [.k (.t_ 3)] [.k (.t_ 3)] (fun x=>II x.1) Tryz.func83 (by kernel_rfl)
def VY (asS:List (Int)):Option ((List (Int))):=
 some asS
def HM (agR:Int) (aqw:List (Int)):Option ((Int×(List (Int)))⊕((List (Int)))):=
 some (.inl ((Ac (agR+1)),aqw))
def DA (a0:Aa) (a1:Int) (a2:Int) (agR:Int) (ag4:List (Int)):Option ((Int×(List (Int)))⊕((List (Int)))):=
 (if(decide (agR<(a0.b_.length:Int))) then
  jn (fun(v:(List (Int)))=>HM agR v) (fun afu=>
  (idx a0.b_ agR).bind fun e15=>
  (some (if e15.m_==a1 then decide (0<=e15.Ti)else false)).bind fun b16=>
  (some (if b16 then decide (e15.Ti<a2)else false)).bind fun b17=>
  (if b17 then
   (idx ag4 e15.Ti).bind fun e19=>
   (idx ag4 e15.Ti).bind fun e20=>
   (idx ag4 e15.Ti).bind fun e21=>
   (idx ag4 e15.Ti).bind fun e23=>
   (some (ag4.set (e15.Ti).toNat (Ac (e20+1)))).bind fun l22=>
   afu l22
  else
   afu ag4))
 else
  some (.inr ag4))
def Ju (a0:Aa) (a1:Int) (a2:Int):Option ((List (Int))):=
 (n_ (0<=a2/\a2<=a2/\a2*8<=140737488355328/\a2<=maxLen)).bind fun u2=>
 (some (List.replicate (a2).toNat (0:Int))).bind fun l1=>
 jn (fun(v:(List (Int)))=>VY v) (fun jJ4=>
 (iter (fun(v:Int×(List (Int)))=>DA a0 a1 a2 v.1 v.2) FU ((0:Int),l1)).bind (fun o0=>jJ4 o0))
def Y7:Cj:=mX [] 19 Tryz.f19 (.s .n (.s .n (.j ⟨[7],[],[],[([11], .row 3)]⟩ (.s .n (.l ⟨[1,2,7,13,14],[BS 15],[],[([11], .row 3)]⟩ [(1,⟨[7],[],[],[([11], .row 3)]⟩)] (.s .n (.s .n (.j ⟨[1,2,7,13,14,15],[],[],[([11], .row 3)]⟩ .n .n))))) .n))) [[1]] [.s 36, .k (.int .i64), .k (.int .i64)] [.k (.t_ 3)] (fun x=>Ju x.1 x.2.1 x.2.2.1) Tryz.func19 (by kernel_rfl)
end Go.PL
