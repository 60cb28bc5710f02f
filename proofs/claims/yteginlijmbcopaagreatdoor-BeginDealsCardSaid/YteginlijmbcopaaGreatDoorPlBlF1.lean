/- Functions of the program, as partial functions in Lean, with proofs. -/
import Derived.Test.YteginlijmbcopaaGreatDoorPlBlB
namespace Go.PL
open Go Go.RowKit Go.Proofs
set_option maxRecDepth 100000
set_option linter.all false
set_option maxHeartbeats 4000000
attribute [local irreducible] Aq Cr Cc
def ck (a0:Ac) (auW:Bool):Option (Bool):=
 (if auW then
  some ((a0.Options.length:Int)==0)
 else if a0.Kind==3 then
  (some (if a0.aaW==0 then true else a0.aaW==(a0.Options.length:Int))).bind fun b8=>
  (some (if a0.aaW==a0.ahx then b8 else false)).bind fun b9=>
  some b9
 else if a0.Kind==5 then
  some (a0.aaW==a0.ahx)
 else
  some true)
def cm (a0:Ac) (axA:Bool):Option (Bool):=
 (if axA then
  some (decide ((a0.Options.length:Int)<=1))
 else
  jn (fun(v:Bool)=>ck a0 v) (fun jJ5=>
  (if a0.Kind==6 then
   jJ5 (a0.Kind==6)
  else
   jJ5 (a0.Kind==7))))
def JV (a0:Ac):Option (Bool):=
 jn (fun(v:Bool)=>cm a0 v) (fun jJ2=>
 (if a0.Kind==1 then
  jJ2 (a0.Kind==1)
 else if a0.Kind==2 then
  jJ2 (a0.Kind==2)
 else if a0.Kind==9 then
  jJ2 (a0.Kind==9)
 else if a0.Kind==10 then
  jJ2 (a0.Kind==10)
 else if a0.Kind==11 then
  jJ2 (a0.Kind==11)
 else if a0.Kind==4 then
  jJ2 (a0.Kind==4)
 else
  jJ2 (a0.Kind==8)))
def Sk:A9:=mC [] 79 Tryz.f79 (.s .n (.s .n (.s (.s .n (.j ⟨[1,3,8],[EO 9],[[1]],[]⟩ .n (.i .n (.j ⟨[1,3,8],[EO 19],[[1]],[]⟩ .n .n)))) .n))) [.s 54] [.k (.bool)] (fun x=>JV x.1) Tryz.func79 (by kernel_rfl)
def jq (an5:List (Int)):Option ((List (Int))):=
 some an5
def jr (a0:Int) (aqR:Int) (ahN:List (Int)):Option ((Int×(List (Int)))⊕((List (Int)))):=
 (if decide (aqR<a0) then
  (app 8 ahN ([aqR]:List (Int))).bind fun l11=>
  some (.inl ((Ab (aqR+1)),l11))
 else
  some (.inr ahN))
def Uw (a0:Int):Option ((List (Int))):=
 jn (fun(v:(List (Int)))=>jq v) (fun jJ2=>
 (iter (fun(v:Int×(List (Int)))=>jr a0 v.1 v.2) FU ((0:Int),([]:List (Int)))).bind (fun o0=>jJ2 o0))
def ni:A9:=mC [] 121 Tryz.f121 (.s .n (.s .n (.j ⟨[],[(3, .c (.c (.n_ [3])))],[],[([3], .row 3)]⟩ (.s .n (.l ⟨[5],[(3, .c (.c (.n_ [3]))),A0 6],[],[([3], .row 3)]⟩ [(1,⟨[],[(3, .c (.c (.n_ [3])))],[],[([3], .row 3)]⟩)] .n)) .n))) [.k (.int .i64)] [.k (.u_ 3)] (fun x=>Uw x.1) Tryz.func121 (by kernel_rfl)
def AX (a0:List (Ak)):Option (List (Ak)):=if a0.length*24<=140737488355328/\a0.length<=maxLen then some a0 else none
theorem Kc {a0 r:List (Ak)} (h:AX a0=some r):Cu Tryz.prog I0 48 [vL (A4) a0] 82 3 (fun len cs=>len=r.length/\cs=r.flatMap (A4)):=by
 refine Cu.of (t:=2) (m:=7) Cd (by kernel_rfl) Tryz.func48 rfl rfl Tryz.ntmps48 ?_;intro w0 av old gv;unfold AX at h;split at h
 ·rename_i hb;injection h with h;subst h;refine Rg [.a] (sl 7 [(0,vL (A4) a0)] []) (aN) ?_;have hr:app 24 ([]:List (Ak)) a0=some a0:=by unfold app;rw [if_pos ⟨by simpa using hb.1,by simpa using hb.2⟩];rfl
  refine Aq.seq ?_;refine Aq.region ?_;refine Rp 1 [.a] (sl 7 [(0,vL (A4) a0),(3,vL (A4) a0)] []) (aN) ?_;refine Run.inl rfl rfl (E4.clip (len:=a0.length) (cs:=a0.flatMap (A4)) 82 3 4 rfl rfl ?_);refine Rw [.a,(.e a0.length (a0.flatMap (A4))), .a] (sl 7 [(0,vL (A4) a0),(2, .c (.n_ [4])),(3,vL (A4) a0),(5,vL (A4) a0),(6, .c (.n_ [4]))] [ur [4] 82 3 (A4) a0]) (aC (show (a0.flatMap (A4)).length =a0.length*3 from Dp (enc:=A4) (n:=3) qo _)<|aC (ap1 hr (A4))<|aC (rW hr)<|aN) ?_;refine Tn ?_;refine Aq.ret ?_;exact⟨.inr rfl, .inl ⟨[4],ur [4] 82 3 (A4) a0,a0.length,by kernel_rfl,by kernel_rfl,by kernel_rfl,Cg _ (fun _=>rfl) _,⟨rfl,rfl⟩⟩⟩
 ·cases h
def L3 (a0 r:List (Ak)):Prop:=CZ Tryz.prog I0 48 [vL (A4) a0] (· =vL (A4) r)
theorem K4 {a0 r:List (Ak)} (h:AX a0=some r):L3 a0 r:=Cu.flat (Kc h)
def F6:CE TE Tryz.prog I0:=⟨48,[.k (.u_ 82)],[.k (.u_ 82)],fun x=>AX x.1,fun x r h=>QL (by kernel_rfl) (K4 (r:=r) h),[],fun h=>absurd rfl h,none,(fun _ h=>nomatch h),none,(fun _ _ h=>nomatch h)⟩
def Wq (a0:Ac) (a1:List (Int)) (aqY:Int):Option (Bool):=
 (some (if((a1.length:Int)==(a0.Options.length:Int)) then aqY==a0.N else false)).bind fun b3=>
 some b3
def Ux (a1:List (Int)) (amJ:Int) (anM:Int):Option ((Int×Int)⊕(Int⊕Bool)):=
 (if(decide (anM<(a1.length:Int))) then
  (idx a1 anM).bind fun e12=>
  (some (if decide (e12<0) then true else decide (1000000<e12))).bind fun b13=>
  (if b13 then
   some (.inr (.inr false))
  else
   some (.inl ((Ab (amJ+e12)),(Ab (anM+1)))))
 else
  some (.inr (.inl amJ)))
def Sl (a0:Ac) (a1:List (Int)):Option (Bool):=
 jn (fun(v:Int)=>Wq a0 a1 v) (fun jJ2=>
 (iter (fun(v:Int×Int)=>Ux a1 v.1 v.2) FU ((0:Int),(0:Int))).bind (Sum.elim (fun o0=>jJ2 o0) (fun o1=>some o1)))
def ZK:A9:=mC [] 124 Tryz.f124 (.s .n (.s .n (.j ⟨[1,2],[A0 5],[[2]],[]⟩ (.s .n (.l ⟨[1,2,8,9],[A0 5,A0 10],[[2]],[]⟩ [(1,⟨[1,2],[A0 5],[[2]],[]⟩),(0,⟨[],[EO 4],[],[]⟩)] .n)) .n))) [.s 54, .k (.u_ 3)] [.k (.bool)] (fun x=>Sl x.1 x.2.1) Tryz.func124 (by kernel_rfl)
def Wr (l1:List (BB)) (l2:List (C8)) (asb:Int) (aoE:Av) (aqu:CC) (asa:Bool) (anh:Bz) (atC:Bool) (ani:Bn) (an7:List (AF)):Option (AG):=
 some (⟨asb,aoE,l1,aqu,asa,anh,atC,l2,an7,ani⟩:AG)
def In (a0:AG) (amf:Int) (alH:Int) (ais:Av) (akm:CC) (alE:Bool) (ahk:Bz) (anr:Bool) (ahl:Bn) (ajr:List (AF)):Option ((Int×Int×Av×CC×Bool×Bz×Bool×Bn×(List (AF)))⊕((Int×Av×CC×Bool×Bz×Bool×Bn×(List (AF))))):=
 (if(decide (amf<(a0.w_.length:Int))) then
  (idx a0.w_ amf).bind fun e41=>
  (app 176 ([]:List (BB)) e41.aai).bind fun l42=>
  (app 560 ajr ([(⟨e41.Op,e41.Ref,e41.adD,e41.R_,e41.O_,e41.aag,e41.Filter,e41.ab7,l42⟩:AF)]:List (AF))).bind fun l43=>
  some (.inl ((Ab (amf+1)),alH,ais,akm,alE,ahk,anr,ahl,l43))
 else
  some (.inr (alH,ais,akm,alE,ahk,anr,ahl,ajr)))
def H6 (a0:AG):Option (AG):=
 (app 176 ([]:List (BB)) a0.aai).bind fun l1=>
 (app 144 ([]:List (C8)) a0.acg).bind fun l2=>
 jn (fun(v:Int×Av×CC×Bool×Bz×Bool×Bn×(List (AF)))=>Wr l1 l2 v.1 v.2.1 v.2.2.1 v.2.2.2.1 v.2.2.2.2.1 v.2.2.2.2.2.1 v.2.2.2.2.2.2.1 v.2.2.2.2.2.2.2) (fun ad1=>
 (iter (fun(v:Int×Int×Av×CC×Bool×Bz×Bool×Bn×(List (AF)))=>In a0 v.1 v.2.1 v.2.2.1 v.2.2.2.1 v.2.2.2.2.1 v.2.2.2.2.2.1 v.2.2.2.2.2.2.1 v.2.2.2.2.2.2.2.1 v.2.2.2.2.2.2.2.2) FU ((0:Int),a0.Kind,a0.Filter,a0.afC,a0.alb,a0.acv,a0.May,a0.Replace,([]:List (AF)))).bind (fun o0=>ad1 (o0.1,o0.2.1,o0.2.2.1,o0.2.2.2.1,o0.2.2.2.2.1,o0.2.2.2.2.2.1,o0.2.2.2.2.2.2.1,o0.2.2.2.2.2.2.2)))
def cn:A9:=mC [] 84 Tryz.f84 (.s .n (.s .n (.s .n (.s .n (.s (.r [] [([3],49,[1049,3],180)] .n) (.j ⟨[2,3],[],[[2],[7],[12]],[([3], .box [AD, .v (.s 110), .c (.n_ [7]), .v (.s 113),B1, .v (.s 115),B1, .c (.n_ [12]), .c (.n_ [1049,3]), .v (.s 119)]),([1049,3], .row 180)]⟩ (.s .n (.l ⟨[1,2,3],[A0 4],[[1],[2],[7],[12]],[([3], .box [AD, .v (.s 110), .c (.n_ [7]), .v (.s 113),B1, .v (.s 115),B1, .c (.n_ [12]), .c (.n_ [1049,3]), .v (.s 119)]),([1049,3], .row 180)]⟩ [(1,⟨[2,3],[],[[2],[7],[12]],[([3], .box [AD, .v (.s 110), .c (.n_ [7]), .v (.s 113),B1, .v (.s 115),B1, .c (.n_ [12]), .c (.n_ [1049,3]), .v (.s 119)]),([1049,3], .row 180)]⟩)] (.s .n (.s (.s .n (.s .n (.r [] [] (.q 3 .bf .n)))) .n)))) .n)))))) [.s 121] [.s 121] (fun x=>H6 x.1) Tryz.func84 (by kernel_rfl)
def ZL (aCE:List (Int)):Option ((List (Int))):=
 some aCE
def Nb (aat:Int) (ax_:List (Int)):Option ((Int×(List (Int)))⊕((List (Int)))):=
 some (.inl ((Ab (aat+1)),ax_))
def JW (a0:List (Int)) (a1:Int) (aat:Int) (avv:List (Int)):Option ((Int×(List (Int)))⊕((List (Int)))):=
 (if(decide (aat<(a0.length:Int))) then
  jn (fun(v:(List (Int)))=>Nb aat v) (fun agV=>
  (idx a0 aat).bind fun e13=>
  (if e13 != a1 then
   (idx a0 aat).bind fun e15=>
   (app 8 avv ([e15]:List (Int))).bind fun l16=>
   agV l16
  else
   agV avv))
 else
  some (.inr avv))
def KC (a0:List (Int)) (a1:Int):Option ((List (Int))):=
 jn (fun(v:(List (Int)))=>ZL v) (fun jJ2=>
 (iter (fun(v:Int×(List (Int)))=>JW a0 a1 v.1 v.2) FU ((0:Int),([]:List (Int)))).bind (fun o0=>jJ2 o0))
def cq:A9:=mC [] 223 Tryz.f223 (.s .n (.s .n (.j ⟨[],[(5, .c (.c (.n_ [5])))],[],[([5], .row 3)]⟩ (.s .n (.l ⟨[0,1],[(5, .c (.c (.n_ [5]))),A0 6],[],[([5], .row 3)]⟩ [(1,⟨[],[(5, .c (.c (.n_ [5])))],[],[([5], .row 3)]⟩)] (.s .n (.j ⟨[0,1,6],[(5, .c (.c (.n_ [5])))],[],[([5], .row 3)]⟩ .n .n)))) .n))) [.k (.u_ 3), .k (.int .i64)] [.k (.u_ 3)] (fun x=>KC x.1 x.2.1) Tryz.func223 (by kernel_rfl)
def js (a0:Int) (a1:Int) (a2:Int) (a3:Int) (a4:Int):Option (Ae):=
 some (⟨a0,a1,a2,a2,a3,false,false,false,false,0,(⟨0,0,0⟩:A3 (Int)),a4,(-1:Int),(-1:Int),false,0,0⟩:Ae)
def vR:A9:=mC [] 28 Tryz.f28 .n [.k (.int .i64), .k (.int .i64), .k (.int .i64), .k (.int .i64), .k (.int .i64)] [.s 70] (fun x=>js x.1 x.2.1 x.2.2.1 x.2.2.2.1 x.2.2.2.2.1) Tryz.func28 (by kernel_rfl)
def MK (a0:Int):Option (Bool):=
 (some (if a0==1 then true else a0==2)).bind fun b1=>
 (some (if b1 then true else a0==9)).bind fun b2=>
 (some (if b2 then true else a0==10)).bind fun b3=>
 (some (if b3 then true else a0==11)).bind fun b4=>
 some b4
def ML:A9:=mC [] 179 Tryz.f179 .n [.k (.int .i64)] [.k (.bool)] (fun x=>MK x.1) Tryz.func179 (by kernel_rfl)
def jt (an5:List (Int)):Option ((List (Int))):=
 some an5
def ju (a0:Int) (adR:Int) (ahN:List (Int)):Option ((Int×(List (Int)))⊕((List (Int)))):=
 (if decide (adR<a0) then
  (app 8 ahN ([adR]:List (Int))).bind fun l11=>
  some (.inl ((Ab (adR+1)),l11))
 else
  some (.inr ahN))
def Uy (a0:Int):Option ((List (Int))):=
 jn (fun(v:(List (Int)))=>jt v) (fun jJ2=>
 (iter (fun(v:Int×(List (Int)))=>ju a0 v.1 v.2) FU ((0:Int),([]:List (Int)))).bind (fun o0=>jJ2 o0))
def nj:A9:=mC [] 180 Tryz.f180 (.s .n (.s .n (.j ⟨[],[(3, .c (.c (.n_ [3])))],[],[([3], .row 3)]⟩ (.s .n (.l ⟨[0],[(3, .c (.c (.n_ [3]))),A0 4],[],[([3], .row 3)]⟩ [(1,⟨[],[(3, .c (.c (.n_ [3])))],[],[([3], .row 3)]⟩)] .n)) .n))) [.k (.int .i64)] [.k (.u_ 3)] (fun x=>Uy x.1) Tryz.func180 (by kernel_rfl)
def GA (a0:Ac):Option (Ac):=
 (app 24 ([]:List (Ak)) a0.Options).bind fun l1=>
 some (⟨a0.Kind,a0.abO,a0.Source,a0.aaW,a0.ahx,a0.N,l1⟩:Ac)
def q8:A9:=mC [] 89 Tryz.f89 .n [.s 54] [.s 54] (fun x=>GA x.1) Tryz.func89 (by kernel_rfl)
def ZM:Option (Bool):=
 some true
def ZN (F_:Int):Option ((Int)⊕(Unit⊕Bool)):=
 some (.inl (Ab (F_+1)))
def Ws (a0:List (Int)) (F_:Int) (al_:Int):Option ((Int)⊕(Unit⊕Bool)):=
 (if decide (al_<F_) then
  (idx a0 al_).bind fun e17=>
  (idx a0 F_).bind fun e18=>
  (if e17==e18 then
   some (.inr (.inr false))
  else
   some (.inl (Ab (al_+1))))
 else
  some (.inr (.inl ())))
def Oq (a0:List (Int)) (a1:Int) (F_:Int):Option ((Int)⊕(Unit⊕Bool)):=
 (if(decide (F_<(a0.length:Int))) then
  jn (fun(v:Unit)=>ZN F_) (fun jJ7=>
  (idx a0 F_).bind fun e8=>
  (gd ((decide (e8<0))==false) (idx a0 F_)).bind fun e9=>
  (some (if decide (e8<0) then true else decide (a1<=e9))).bind fun b10=>
  (if b10 then
   some (.inr (.inr false))
  else
   (iter (fun(v:Int)=>Ws a0 F_ v) FU (0:Int)).bind (Sum.elim (fun o0=>jJ7 ()) (fun o1=>some (.inr (.inr o1))))))
 else
  some (.inr (.inl ())))
def DD (a0:List (Int)) (a1:Int):Option (Bool):=
 jn (fun(v:Unit)=>ZM) (fun jJ1=>
 (iter (fun(v:Int)=>Oq a0 a1 v) FU (0:Int)).bind (Sum.elim (fun o0=>jJ1 ()) (fun o1=>some o1)))
def cr:A9:=mC [] 181 Tryz.f181 (.s .n (.j EN (.s .n (.l ⟨[0,1],[A0 5],[],[]⟩ [(1,EN),(0,⟨[],[EO 4],[],[]⟩)] (.s .n (.j ⟨[0,1,5],[],[],[]⟩ (.s .n (.s .n (.l ⟨[0,1,5],[A0 6],[],[]⟩ [(3,⟨[0,1,5],[],[],[]⟩),(0,⟨[],[EO 4],[],[]⟩)] .n))) .n)))) .n)) [.k (.u_ 3), .k (.int .i64)] [.k (.bool)] (fun x=>DD x.1 x.2.1) Tryz.func181 (by kernel_rfl)
def jv:Option (Bool):=
 some true
def jw (F_:Int):Option ((Int)⊕(Unit⊕Bool)):=
 some (.inl (Ab (F_+1)))
def ct (a0:Ac) (a1:List (Int)) (F_:Int) (ags:Int):Option ((Int)⊕(Unit⊕Bool)):=
 (if decide (ags<F_) then
  (idx a1 ags).bind fun e13=>
  (idx a0.Options e13).bind fun e14=>
  (idx a1 F_).bind fun e15=>
  (idx a0.Options e15).bind fun e16=>
  (if e14.A==e16.A then
   some (.inr (.inr false))
  else
   some (.inl (Ab (ags+1))))
 else
  some (.inr (.inl ())))
def jx (a0:Ac) (a1:List (Int)) (F_:Int):Option ((Int)⊕(Unit⊕Bool)):=
 (if(decide (F_<(a1.length:Int))) then
  jn (fun(v:Unit)=>jw F_) (fun jJ7=>
  (iter (fun(v:Int)=>ct a0 a1 F_ v) FU (0:Int)).bind (Sum.elim (fun o0=>jJ7 ()) (fun o1=>some (.inr (.inr o1)))))
 else
  some (.inr (.inl ())))
def fL (a0:Ac) (a1:List (Int)):Option (Bool):=
 jn (fun(v:Unit)=>jv) (fun jJ1=>
 (iter (fun(v:Int)=>jx a0 a1 v) FU (0:Int)).bind (Sum.elim (fun o0=>jJ1 ()) (fun o1=>some o1)))
def nk:A9:=mC [] 182 Tryz.f182 (.s .n (.j EN (.s .n (.l ⟨[1,2],[A0 5],[[2]],[]⟩ [(1,EN),(0,⟨[],[EO 4],[],[]⟩)] (.s .n (.j ⟨[1,2,5],[],[[2]],[]⟩ (.s .n (.l ⟨[1,2,5],[A0 6],[[2]],[]⟩ [(3,⟨[1,2,5],[],[[2]],[]⟩),(0,⟨[],[EO 4],[],[]⟩)] .n)) .n)))) .n)) [.s 54, .k (.u_ 3)] [.k (.bool)] (fun x=>fL x.1 x.2.1) Tryz.func182 (by kernel_rfl)
def nl (a0:Int):Option (Int×Int):=
 some (KP .u64 (IntKind.u64.wrap ((KP .u64 (IntKind.u64.wrap ((KP .u64 (IntKind.u64.wrap (a0+11400714819323198485)) (Int.fdiv (IntKind.u64.wrap (a0+11400714819323198485)) (2 ^ (min ((30:Int)).toNat (IntKind.u64).bits))))*(13787848793156543929:Int))) (Int.fdiv (IntKind.u64.wrap ((KP .u64 (IntKind.u64.wrap (a0+11400714819323198485)) (Int.fdiv (IntKind.u64.wrap (a0+11400714819323198485)) (2 ^ (min ((30:Int)).toNat (IntKind.u64).bits))))*(13787848793156543929:Int))) (2 ^ (min ((27:Int)).toNat (IntKind.u64).bits))))*(10723151780598845931:Int))) (Int.fdiv (IntKind.u64.wrap ((KP .u64 (IntKind.u64.wrap ((KP .u64 (IntKind.u64.wrap (a0+11400714819323198485)) (Int.fdiv (IntKind.u64.wrap (a0+11400714819323198485)) (2 ^ (min ((30:Int)).toNat (IntKind.u64).bits))))*(13787848793156543929:Int))) (Int.fdiv (IntKind.u64.wrap ((KP .u64 (IntKind.u64.wrap (a0+11400714819323198485)) (Int.fdiv (IntKind.u64.wrap (a0+11400714819323198485)) (2 ^ (min ((30:Int)).toNat (IntKind.u64).bits))))*(13787848793156543929:Int))) (2 ^ (min ((27:Int)).toNat (IntKind.u64).bits))))*(10723151780598845931:Int))) (2 ^ (min ((31:Int)).toNat (IntKind.u64).bits))),IntKind.u64.wrap (a0+11400714819323198485))
def q9:A9:=mC [] 102 Tryz.f102 .n [.k (.int .u64)] [.k (.int .u64), .k (.int .u64)] (fun x=>nl x.1) Tryz.func102 (by kernel_rfl)
def cw (an5:List (Int)):Option ((List (Int))):=
 some an5
def ZO (adR:Int) (arh:List (Int)):Option ((Int×(List (Int)))⊕((List (Int)))):=
 some (.inl ((Ab (adR+1)),arh))
def cx (a0:Aa) (adR:Int) (ahN:List (Int)):Option ((Int×(List (Int)))⊕((List (Int)))):=
 (if(decide (adR<(a0.a_.length:Int))) then
  jn (fun(v:(List (Int)))=>ZO adR v) (fun agV=>
  (idx a0.a_ adR).bind fun e13=>
  (if !e13.ahy then
   (app 8 ahN ([adR]:List (Int))).bind fun l15=>
   agV l15
  else
   agV ahN))
 else
  some (.inr ahN))
def ZP (a0:Aa):Option ((List (Int))):=
 jn (fun(v:(List (Int)))=>cw v) (fun jJ2=>
 (iter (fun(v:Int×(List (Int)))=>cx a0 v.1 v.2) FU ((0:Int),([]:List (Int)))).bind (fun o0=>jJ2 o0))
def jy:A9:=mC [] 88 Tryz.f88 (.s .n (.s .n (.j ⟨[],[(3, .c (.c (.n_ [3])))],[],[([3], .row 3)]⟩ (.s .n (.l ⟨[1],[(3, .c (.c (.n_ [3]))),A0 4],[[1]],[([3], .row 3)]⟩ [(1,⟨[],[(3, .c (.c (.n_ [3])))],[],[([3], .row 3)]⟩)] (.s .n (.j ⟨[1,4],[(3, .c (.c (.n_ [3])))],[[1]],[([3], .row 3)]⟩ .n .n)))) .n))) [.s 36] [.k (.u_ 3)] (fun x=>ZP x.1) Tryz.func88 (by kernel_rfl)
def nm:Option (Bool):=
 some true
def Or (a0:List (Int)) (a1:List (Int)) (Y_:Int):Option ((Int)⊕(Unit⊕Bool)):=
 (if(decide (Y_<(a0.length:Int))) then
  (idx a0 Y_).bind fun e8=>
  (idx a1 Y_).bind fun e9=>
  (if e8 != e9 then
   some (.inr (.inr false))
  else
   some (.inl (Ab (Y_+1))))
 else
  some (.inr (.inl ())))
def Fn (a0:List (Int)) (a1:List (Int)):Option (Bool):=
 (if((a0.length:Int) != (a1.length:Int)) then
  some false
 else
  jn (fun(v:Unit)=>nm) (fun jJ2=>
  (iter (fun(v:Int)=>Or a0 a1 v) FU (0:Int)).bind (Sum.elim (fun o0=>jJ2 ()) (fun o1=>some o1))))
def QT:A9:=mC [] 30 Tryz.f30 (.s .n (.s .n (.j EN (.s .n (.l ⟨[0,1],[A0 5],[],[]⟩ [(1,EN),(0,⟨[],[EO 4],[],[]⟩)] .n)) .n))) [.k (.u_ 3), .k (.u_ 3)] [.k (.bool)] (fun x=>Fn x.1 x.2.1) Tryz.func30 (by kernel_rfl)
def Wt:Option (Bool):=
 some true
def Io (a0:List (BB)) (a1:List (BB)) (Y_:Int):Option ((Int)⊕(Unit⊕Bool)):=
 (if(decide (Y_<(a0.length:Int))) then
  (idx a0 Y_).bind fun e8=>
  (idx a1 Y_).bind fun e9=>
  (if !(e8==e9) then
   some (.inr (.inr false))
  else
   some (.inl (Ab (Y_+1))))
 else
  some (.inr (.inl ())))
def IH (a0:List (BB)) (a1:List (BB)):Option (Bool):=
 (if((a0.length:Int) != (a1.length:Int)) then
  some false
 else
  jn (fun(v:Unit)=>Wt) (fun jJ2=>
  (iter (fun(v:Int)=>Io a0 a1 v) FU (0:Int)).bind (Sum.elim (fun o0=>jJ2 ()) (fun o1=>some o1))))
def ZQ:A9:=mC [] 104 Tryz.f104 (.s .n (.s .n (.j EN (.s .n (.l ⟨[0,1],[A0 5],[],[]⟩ [(1,EN),(0,⟨[],[EO 4],[],[]⟩)] .n)) .n))) [.k (.u_ 148), .k (.u_ 148)] [.k (.bool)] (fun x=>IH x.1 x.2.1) Tryz.func104 (by kernel_rfl)
end Go.PL
