/- Functions of the program, as partial functions in Lean, with proofs. -/
import Derived.Test.YtenjiecnhncfiaaGreatDoorPlBeB
import Derived.Test.YtenjiecnhncfiaaGreatDoorPlBeF0
import Derived.Test.YtenjiecnhncfiaaGreatDoorPlBeF1
namespace Go.PL
open Go Go.RowKit Go.Proofs
set_option maxRecDepth 100000
set_option linter.all false
set_option maxHeartbeats 4000000
attribute [local irreducible] Ag Cv Co
def Hx (a0:List UInt8):Option (Bool):=
 (Qa a0).bind fun r1=>
 (gd (r1==true) (Cw a0 (2:Int))).bind fun r2=>
 (some (if r1 then r2==0 else false)).bind fun b3=>
 (gd (b3==true) (CI a0 (6:Int))).bind fun r4=>
 (some (if b3 then r4==0 else false)).bind fun b5=>
 some b5
def NA:CE TE Tryz.prog I0:=AA [Vx,KM,Ly] Aa Ac 9 143 Tryz.f143 (Tryz.f143.body.getD .skip) .n [.k (.str)] [.k (.bool)] (fun x=>Hx x.1) Tryz.func143 rfl (by kernel_rfl)
def Dw (a0:Af):Option (Bool):=
 (Bb a0.Kind (3:Int)).bind fun r1=>
 (gd (r1==true) (Bb a0.N (1000000:Int))).bind fun r2=>
 (some (if r1 then r2 else false)).bind fun b3=>
 (some (if a0.Kind != 0 then true else a0.N==0)).bind fun b4=>
 (some (if b3 then b4 else false)).bind fun b5=>
 some b5
def VK:CE TE Tryz.prog I0:=AA [Mk] Aa Ac 9 180 Tryz.f180 (Tryz.f180.body.getD .skip) .n [.s 91] [.k (.bool)] (fun x=>Dw x.1) Tryz.func180 rfl (by kernel_rfl)
def Jh (awp:List (List UInt8)):Option ((List (List UInt8))):=
 some awp
def IK (r3:(List (Int))) (ajL:Int) (asN:List (List UInt8)):Option ((Int×(List (List UInt8)))⊕((List (List UInt8)))):=
 (if(decide (ajL<(r3.length:Int))) then
  (idx r3 ajL).bind fun e12=>
  (idx (⟨GF,Ir,Kt,Me,Mf,O5⟩:A6 (List UInt8)).l e12).bind fun e13=>
  (app 16 asN ([e13]:List (List UInt8))).bind fun l14=>
  some (.inl ((Ad (ajL+1)),l14))
 else
  some (.inr asN))
def Fu (a0:Int):Option ((List (List UInt8))):=
 jn (fun(v:(List (List UInt8)))=>Jh v) (fun K_=>
 (Ft a0).bind fun r3=>
 (iter (fun(v:Int×(List (List UInt8)))=>IK r3 v.1 v.2) FU ((0:Int),([]:List (List UInt8)))).bind (fun o0=>K_ o0))
def KC:CE TE Tryz.prog I0:=AA [RC] Aa Ac 9 242 Tryz.f242 (Tryz.f242.body.getD .skip) (.s .n (.s .n (.j ⟨[],[(5, .c (.c (.h_ [5])))],[],[([5], .row 9)]⟩ (.s .n (.l ⟨[1,9,10],[(5, .c (.c (.h_ [5]))),(11, .c (.v (.k (.int .i64))))],[],[([5], .row 9)]⟩ [(1,⟨[],[(5, .c (.c (.h_ [5])))],[],[([5], .row 9)]⟩)] (.s .n (.s .n (.s (.s .n (.r [] [] (.c 3 .n .n))) .n))))) .n))) [.k (.int .i64), .f 178] [.k (.u_ 9)] (fun x=>Fu x.1) Tryz.func242 rfl (by kernel_rfl)
def HX (aws:List (List UInt8)):Option ((List UInt8)):=
 (QD aws K9).bind fun r6=>
 some r6
def EE (adM:Int) (asR:List (List UInt8)):Option ((Int×(List (List UInt8)))⊕((List (List UInt8)))):=
 some (.inl ((Ad (adM+1)),asR))
def KD (a0:Int) (adM:Int) (afo:List (List UInt8)):Option ((Int×(List (List UInt8)))⊕((List (List UInt8)))):=
 (if decide (adM<5) then
  (idx (⟨Km,Kn,Ko,Kp,Kq⟩:A5 (List UInt8)).l adM).bind fun e16=>
  (n_ (0<=adM)).bind fun u17=>
  (if((Fk .i64 (Int.fdiv a0 (2 ^ (min (adM).toNat (IntKind.i64).bits))) (1:Int))==(1:Int)) then
   (app 16 afo ([e16]:List (List UInt8))).bind fun l19=>
   EE adM l19
  else
   EE adM afo)
 else
  some (.inr afo))
def EF (a0:Int):Option ((List UInt8)):=
 (Is a0).bind fun r1=>
 (if !r1 then
  some ([]:List UInt8)
 else
  (if a0==0 then
   some O6
  else
   (iter (fun(v:Int×(List (List UInt8)))=>KD a0 v.1 v.2) FU ((0:Int),([]:List (List UInt8)))).bind (fun o0=>HX o0)))
def kf (a0:Int) (r:(List UInt8)):Prop:=Ce Tryz.prog I0 220 [vI a0] (· =vS r)
theorem dT {a0:Int} {r:(List UInt8)} (h:EF a0=some r):kf a0 r:=by
 refine Ce.bo Aa Tryz.func220 rfl Tryz.ntmps220 [.tmp 2] fun _ _ _ _=>?_;unfold EF at h;refine Gg [.a] (u [] []) (aN)<|hS ?_;obtain⟨r1,k1,h⟩:=bS h;refine Gg [.a,(.c (vB r1)),.a] (u [] [(8,vB (!r1))]) (aC (mW k1)<|aN)<|iC h (fun h=>?_) (fun h=>?_)
 ·exact Rg [.a] (sl 28 [(2,vS ([]:List UInt8))] []) (aN)<|hR<|Tr<|bQ _ (congrArg vS (sI h))
 refine hK<|Tn<|hS<|Gg [.a,.a] (u [8] [(10,vB (a0==0))]) (aN)<|iC h (fun h=>?_) (fun h=>?_)
 ·exact Rg [.a] (sl 28 [(2,vS O6)] []) (aN)<|hR<|Tr<|bQ _ (congrArg vS (sI h))
 refine hK<|Tn<|Rg [.a] (sl 28 [(0,vI a0),(3,vO [3])] [I8 [3] 9 1 eS ([]:List (List UInt8))]) (aN)<|Sj (X:=(List (List UInt8))) (fun v=>(sl 28 [(3,vO [3])] [I8 [3] 9 1 eS v])) (fun v=>HX v=some r) ?_ ?_
 ·refine hS<|hO<|Gp 0 [] (u [] []) (aN)<|Run.inl rfl rfl (DW.ax2 (g:=2) (tab:=Eu) rfl gz ?_);refine Gw [.a] (u [] [(12,vI 0)]) (aN)<|Tn<|hB ?_;obtain⟨n1,z0,h⟩:=bS h;refine Gi (fun(v:Int×(List (List UInt8)))=>(uo [] [(12,vI v.1)] [.e (I8 [3] 9 1 eS v.2)])) z0 (wT) ?_;rintro⟨j0,o0⟩ p0 i0 d1;replace i0:KD a0 j0 o0=some p0:=i0;unfold KD at i0;refine Gg [.a] (u [] [(13,vB (decide (j0<5)))]) (aN)<|hS<|iC i0 (fun i0=>?_) (fun i0=>?_)
  ·refine hK<|Tn<|Gj (X:=(List (List UInt8))) (fun v=>(uo [13] [] [.e (I8 [3] 9 1 eS v)])) (fun v=>EE j0 v=some p0) ?_ ?_
   ·refine hB ?_;obtain⟨k0,x0,i0⟩:=bS i0;refine Gg [.a,(.v (vS k0)),.a,.a] (u [13] [(4,vI j0),(5,vS k0)]) (aC (show (0<=j0/\j0<((5:Nat):Int))/\(j0).toNat *1+1<=(eA5 (eS) (⟨Km,Kn,Ko,Kp,Kq⟩:A5 (List UInt8))).length /\toV false ((j0).toNat *1) 1 (eA5 (eS) (⟨Km,Kn,Ko,Kp,Kq⟩:A5 (List UInt8)))=vS k0 from⟨OD x0,iK (e:=eS) (N:=1) (l:=(⟨Km,Kn,Ko,Kp,Kq⟩:A5 (List UInt8)).l) (base:=0) (pre:=[]) (post:=[]) (by kernel_rfl) rfl x0 Ahx (o:=0) (by simp) (by decide) (by decide) (by kernel_rfl)⟩)<|aC (Eq.refl (vS k0))<|aN) ?_;obtain⟨o1,i1,i0⟩:=bS i0;refine Gg (nA 5) (u [4] [(20,vB ((Fk .i64 (Int.fdiv a0 (2 ^ (min (j0).toNat (IntKind.i64).bits))) (1:Int))==(1:Int)))]) (aC (Cz i1)<|aN)<|iC i0 (fun i0=>?_) (fun i0=>?_)
    ·obtain⟨q0,y0,i0⟩:=bS i0;refine Ge [.a,.a,.a,(.e q0.length (q0.flatMap (eS))),.a] (uo [] [(22,vS k0),(23,vO [23]),(24,vO [3])] [.e (I8 [3] 9 1 eS q0),.e (I8 [23] 9 1 eS ([k0]:List (List UInt8)))]) (aC (vw y0 eS)<|aC (LT y0)<|aN)<|qN<|Tn ⟨q0,i0,wT⟩
    refine hK<|qN<|Tn ⟨o0,i0,wT⟩
   rintro t0 n0;replace n0:EE j0 t0=some p0:=n0;unfold EE at n0;refine Ge [.a,.a] (u [] [(12,vI (Ad (j0+1))),(25,vI (Ad (j0+1)))]) (aN)<|Tn ⟨((Ad (j0+1)),t0),(sI n0).symm,wT⟩
  refine hE<|Te ?_;obtain rfl:=d1 _ (sI i0).symm;refine Te<|qX<|Tn ⟨o0,h,wT⟩
 rintro j1 m0;replace m0:HX j1=some r:=m0;unfold HX at m0;obtain⟨r6,m1,m0⟩:=bS m0;exact Rg [.a,(.c (vS r6)),.a] (sl 28 [(2,vS r6)] []) (aC (xS m1)<|aN)<|hR<|bQ _ (congrArg vS (sI m0))def aiI:CE TE Tryz.prog I0:=⟨220,[.k (.int .i64)],[.k (.str)],fun x=>EF x.1,fun x r h=>Mc (by kernel_rfl) (dT (r:=r) h),[],fun h=>absurd rfl h,none,(fun _ h=>nomatch h),none,(fun _ _ h=>nomatch h)⟩
def XJ (alD:List UInt8):Option ((List UInt8)):=
 (BR ([alD,Mg]:List (List UInt8))).bind fun r6=>
 (cat r6 Pa).bind fun s7=>
 some s7
def XK (alC:List UInt8):Option ((List UInt8)):=
 (BR ([alC,Hv]:List (List UInt8))).bind fun r10=>
 (cat r10 O8).bind fun s11=>
 some s11
def NB (a0:Int):Option ((List UInt8)):=
 (some (if decide (a0<0) then true else decide (17<=a0))).bind fun b1=>
 (if b1 then
  some ([]:List UInt8)
 else
  (n_ (0<=a0)).bind fun u3=>
  jn (fun(v:(List UInt8))=>XJ v) (fun jJ5=>
  jn (fun(v:(List UInt8))=>XK v) (fun jJ9=>
  (if((Ad ((1:Int)*2 ^ (min (a0).toNat (IntKind.i64).bits)))==(1:Int)) then
   some Rv
  else
   (if((Ad ((1:Int)*2 ^ (min (a0).toNat (IntKind.i64).bits)))==(2:Int)) then
    some Vq
   else
    (if((Ad ((1:Int)*2 ^ (min (a0).toNat (IntKind.i64).bits)))==(4:Int)) then
     some Vr
    else
     (if((Ad ((1:Int)*2 ^ (min (a0).toNat (IntKind.i64).bits)))==(8:Int)) then
      some Nh
     else
      (if((Ad ((1:Int)*2 ^ (min (a0).toNat (IntKind.i64).bits)))==(16:Int)) then
       some O7
      else
       (if((Ad ((1:Int)*2 ^ (min (a0).toNat (IntKind.i64).bits)))==(32:Int)) then
        jJ9 P6
       else
        (if((Ad ((1:Int)*2 ^ (min (a0).toNat (IntKind.i64).bits)))==(64:Int)) then
         jJ9 ([]:List UInt8)
        else
         (if((Ad ((1:Int)*2 ^ (min (a0).toNat (IntKind.i64).bits)))==(128:Int)) then
          some Rx
         else
          (if((Ad ((1:Int)*2 ^ (min (a0).toNat (IntKind.i64).bits)))==(256:Int)) then
           some Ni
          else
           (if((Ad ((1:Int)*2 ^ (min (a0).toNat (IntKind.i64).bits)))==(512:Int)) then
            some Ry
           else
            (if((Ad ((1:Int)*2 ^ (min (a0).toNat (IntKind.i64).bits)))==(1024:Int)) then
             some Nj
            else
             (if((Ad ((1:Int)*2 ^ (min (a0).toNat (IntKind.i64).bits)))==(2048:Int)) then
              some Rz
             else
              (if((Ad ((1:Int)*2 ^ (min (a0).toNat (IntKind.i64).bits)))==(4096:Int)) then
               some RA
              else
               (if((Ad ((1:Int)*2 ^ (min (a0).toNat (IntKind.i64).bits)))==(8192:Int)) then
                some O9
               else
                (if((Ad ((1:Int)*2 ^ (min (a0).toNat (IntKind.i64).bits)))==(16384:Int)) then
                 jJ5 jB
                else
                 (if((Ad ((1:Int)*2 ^ (min (a0).toNat (IntKind.i64).bits)))==(65536:Int)) then
                  jJ5 ([]:List UInt8)
                 else
                  some Nk)))))))))))))))))))
def bP:CE TE Tryz.prog I0:=AA [NZ] Aa Ac 9 228 Tryz.f228 (Tryz.f228.body.getD .skip) (.s .n (.s .n (.s .n (.s (.s .n (.j ⟨[],[(3, .c (.v (.k (.str))))],[],[]⟩ (.s (.s (.s (.s (.s (.s (.s (.s (.j ⟨[],[(3, .c (.v (.k (.str))))],[],[]⟩ .n .n) .n) .n) .n) .n) .n) .n) .n) .n) .n)) .n)))) [.k (.int .i64)] [.k (.str)] (fun x=>NB x.1) Tryz.func228 rfl (by kernel_rfl)
def CO (a0:List UInt8) (a1:Af):Option ((List UInt8)):=
 (idx (⟨([]:List UInt8),Vu,Vv,jC⟩:A4 (List UInt8)).l a1.Kind).bind fun e1=>
 (if(e1==([]:List UInt8)) then
  some ([]:List UInt8)
 else
  (cat a0 e1).bind fun s3=>
  (Dd a1.N).bind fun r4=>
  (cat s3 r4).bind fun s5=>
  some s5)
def RG:CE TE Tryz.prog I0:=AA [Nv] Aa Ac 9 229 Tryz.f229 (Tryz.f229.body.getD .skip) .n [.k (.str), .s 91] [.k (.str)] (fun x=>CO x.1 x.2.1) Tryz.func229 rfl (by kernel_rfl)
def NC (aeP:List UInt8):Option ((List UInt8)):=
 some aeP
def HY (a0:AB) (akO:List UInt8) (afa:Int):Option (((List UInt8)×Int)⊕((List UInt8))):=
 (if decide (afa<5) then
  (idx a0.Color.l afa).bind fun e16=>
  (Zq Mi afa (Ad (afa+1))).bind fun s17=>
  (K8 s17 e16).bind fun r18=>
  (cat akO r18).bind fun s19=>
  some (.inl (s19,(Ad (afa+1))))
 else
  some (.inr akO))
def ND (a0:AB) (ajX:List UInt8):Option ((List UInt8)):=
 jn (fun(v:(List UInt8))=>NC v) (fun jJ8=>
 (iter (fun(v:(List UInt8)×Int)=>HY a0 v.1 v.2) FU (ajX,(0:Int))).bind (fun o0=>jJ8 o0))
def Mt (a0:AB):Option ((List UInt8)):=
 (Qb a0).bind fun r1=>
 (if !r1 then
  some ([]:List UInt8)
 else
  (if(a0==(⟨0,0,(⟨0,0,0,0,0⟩:A5 (Int))⟩:AB)) then
   some gI
  else
   (K8 sN a0.X).bind fun r4=>
   jn (fun(v:(List UInt8))=>ND a0 v) (fun jJ6=>
   (if decide (0<a0.Generic) then
    (Dd a0.Generic).bind fun r21=>
    (cat r4 r21).bind fun s22=>
    jJ6 s22
   else
    jJ6 r4))))
def Xg:CE TE Tryz.prog I0:=AA [Vy,uX,Nv] Aa Ac 9 191 Tryz.f191 (Tryz.f191.body.getD .skip) (.s .n (.s .n (.s .n (.s .n (.j ⟨[1],[(3, .c (.v (.k (.str))))],[[1]],[]⟩ .n (.j ⟨[],[(3, .c (.v (.k (.str))))],[],[]⟩ (.s .n (.l ⟨[24],[(3, .c (.v (.k (.str)))),(25, .c (.v (.k (.int .i64))))],[],[]⟩ [(1,⟨[],[(3, .c (.v (.k (.str))))],[],[]⟩)] .n)) .n)))))) [.s 45] [.k (.str)] (fun x=>Mt x.1) Tryz.func191 rfl (by kernel_rfl)
def NE (a0:Int) (a1:Int):Option (Int×Int):=
 (if decide (a1<1) then
  some ((0:Int),a0)
 else
  (VD a0).bind fun r2=>
  (n_ ((IntKind.u64.wrap (a1)) ≠ 0)).bind fun u3=>
  some (Ad (Int.tmod r2.1 (IntKind.u64.wrap (a1))),r2.2))
def kg:CE TE Tryz.prog I0:=AA [m7] Aa Ac 9 36 Tryz.f36 (Tryz.f36.body.getD .skip) .n [.k (.int .u64), .k (.int .i64)] [.k (.int .i64), .k (.int .u64)] (fun x=>NE x.1 x.2.1) Tryz.func36 rfl (by kernel_rfl)
def N3 (a0:Ay):Option (Ay):=
 (Az a0.aap).bind fun r1=>
 (Az a0.Hand).bind fun r2=>
 (Az a0.aeu).bind fun r3=>
 some (⟨a0.acL,a0.ans,a0.anv,a0.abe,a0.akJ,a0.aoZ,r1,r2,r3⟩:Ay)
def TT:CE TE Tryz.prog I0:=xN [BF] Aa Ac 9 51 Tryz.f51 (Tryz.f51.body.getD .skip) (.s .n (.s (.r [] [] (.q 2 .co .n)) (.s (.r [] [] (.q 2 .co .n)) (.s (.r [] [] (.q 2 .co .n)) .n)))) [[0,0,0,0,0,0,0,0,0,0,0,1,1,1]] [.s 59] [.s 59] (fun x=>N3 x.1) Tryz.func51 rfl (by kernel_rfl)
def Qr (a0:AE) (r1:(List (A1))) (r2:(List (Dc))) (alA:List (Av)):Option (AE):=
 some (⟨a0.Kind,a0.Filter,r1,a0.y_,a0.ac0,a0.c_,a0.May,r2,alA,a0.Replace⟩:AE)
def Pi (r3:(List (Av))) (aeN:Int) (abZ:List (Av)):Option ((Int×(List (Av)))⊕((List (Av)))):=
 (if(decide (aeN<(r3.length:Int))) then
  (idx abZ aeN).bind fun e14=>
  (idx abZ aeN).bind fun e15=>
  (A9 e15.Tg).bind fun r16=>
  (idx abZ aeN).bind fun e17=>
  (idx abZ aeN).bind fun e19=>
  (some (abZ.set (aeN).toNat ({e19 with Tg:=r16}))).bind fun l18=>
  some (.inl ((Ad (aeN+1)),l18))
 else
  some (.inr abZ))
def Hy (a0:AE):Option (AE):=
 (A9 a0.Tg).bind fun r1=>
 (BH a0.D_).bind fun r2=>
 (Br a0.f_).bind fun r3=>
 jn (fun(v:(List (Av)))=>Qr a0 r1 r2 v) (fun jJ5=>
 (iter (fun(v:Int×(List (Av)))=>Pi r3 v.1 v.2) FU ((0:Int),r3)).bind (fun o0=>jJ5 o0))
def RH:CE TE Tryz.prog I0:=AA [Dv,GQ,Fh] Aa Ac 9 54 Tryz.f54 (Tryz.f54.body.getD .skip) (.s .n (.s (.r [] [] (.q 2 .co .n)) (.s (.r [] [] (.q 2 .co .n)) (.s (.r [] [] (.q 2 .co .n)) (.j ⟨[1,2],[],[[1],[0,0,6],[0,0,10],[2]],[([0,0,14], .row 126)]⟩ (.s .n (.l ⟨[1,2,18],[(19, .c (.v (.k (.int .i64))))],[[1],[0,0,6],[0,0,10],[2]],[([0,0,14], .row 126)]⟩ [(1,⟨[1,2],[],[[1],[0,0,6],[0,0,10],[2]],[([0,0,14], .row 126)]⟩)] (.s .n (.s .n (.s (.s .n (.r [] [] (.t .n))) .n))))) .n))))) [.s 104] [.s 104] (fun x=>Hy x.1) Tryz.func54 rfl (by kernel_rfl)
def N4 (a0:Int) (a1:Int):Option (Int):=
 (LC a0).bind fun r1=>
 (LC a1).bind fun r2=>
 (if r1 then
  (if r2 then
   some (0:Int)
  else
   some (-1:Int))
 else
  (if r2 then
   some (1:Int)
  else
   (if decide (a0<a1) then
    some (-1:Int)
   else
    (if decide (a1<a0) then
     some (1:Int)
    else
     some (0:Int)))))
def TU:CE TE Tryz.prog I0:=AA [XF] Aa Ac 9 88 Tryz.f88 (Tryz.f88.body.getD .skip) .n [.k (.int .i64), .k (.int .i64)] [.k (.int .i64)] (fun x=>N4 x.1 x.2.1) Tryz.func88 rfl (by kernel_rfl)
def Dx (a0:List (Int)) (a1:Int):Option (Bool):=
 (ED a0 a1).bind fun r1=>
 some (decide (0<=r1))
def Fb:CE TE Tryz.prog I0:=AA [GT] Aa Ac 9 60 Tryz.f60 (Tryz.f60.body.getD .skip) .n [.k (.u_ 3), .k (.int .i64)] [.k (.bool)] (fun x=>Dx x.1 x.2.1) Tryz.func60 rfl (by kernel_rfl)
def kh:Option ((List (Int))):=
 some ([]:List (Int))
def Mu (a0:Ao) (a1:Int) (a2:Int):Option ((List (Int))):=
 jn (fun(v:Unit)=>kh) (fun jJ1=>
 (if a1==0 then
  none
 else
  (if a1==4 then
   none
  else
   (some (if decide (a2<0) then true else decide ((a0.m_.length:Int)<=a2))).bind fun b4=>
   (if b4 then
    none
   else
    (idx a0.m_ a2).bind fun e6=>
    (if a1==1 then
     (if true then
      (Az e6.Hand).bind fun r9=>
      some r9
     else
      jJ1 ())
    else
     (if a1==2 then
      (if true then
       (Az e6.aap).bind fun r12=>
       some r12
      else
       jJ1 ())
     else
      (if a1==3 then
       none
      else
       none)))))))
def Pj:CE TE Tryz.prog I0:=AA [BF] Aa Ac 9 30 Tryz.f30 (Tryz.f30.body.getD .skip) (.s .n (.j ⟨[],[],[],[]⟩ (.s (.r [] [] (.c 2 (.s (.r [] [] (.g 0 (.ug [10]) .n)) (.s (.s .n (.s .n (.i .x (.s .n (.i .x .n))))) (.s (.s .n (.i .x .n)) (.s .n (.s (.s .n (.s .n (.i .n (.s .n (.i .n (.s .n (.i .x .n))))))) .x))))) .n)) (.s .n (.i (.s (.r [] [] (.q 3 .co .n)) .n) .n))) .n)) [.s 36, .k (.int .i64), .k (.int .i64)] [.k (.u_ 3)] (fun x=>Mu x.1 x.2.1 x.2.2.1) Tryz.func30 rfl (by kernel_rfl)
def gU (a0:Ao) (a1:Int):Option (Ar×Bool):=
 (bu a0 a1).bind fun r1=>
 (if decide (r1<0) then
  some ((⟨0,0,0,0,0,false,false,false,false,0,(⟨0,0,0⟩:A3 (Int)),0,0,0,false,0,0⟩:Ar),false)
 else
  (idx a0.j_ r1).bind fun e3=>
  some (e3,true))
def ny:CE TE Tryz.prog I0:=AA [jT] Aa Ac 9 90 Tryz.f90 (Tryz.f90.body.getD .skip) .n [.s 36, .k (.int .i64)] [.s 66, .k (.bool)] (fun x=>gU x.1 x.2.1) Tryz.func90 rfl (by kernel_rfl)
def VL (amL:List (Int)):Option ((List (Int))):=
 some amL
def VM (jJ3:((List (Int)))->Option ((List (Int)))) (acM:Int) (aa4:List (Int)):Option ((List (Int))):=
 (n_ (0<=acM/\acM<=((aa4.length:Nat):Int)/\((aa4.length:Nat):Int)<=((aa4.length:Nat):Int)/\0<aa4.length)).bind fun u10=>
 (n_ (acM+(((aa4.length:Nat):Int) - acM)<=((aa4.length:Nat):Int)/\0<aa4.length)).bind fun u11=>
 (some (aa4.take acM.toNat++(List.replicate (((aa4.length:Nat):Int) - acM).toNat (0:Int)++aa4.drop (acM.toNat+(((aa4.length:Nat):Int) - acM).toNat)))).bind fun l12=>
 (n_ (0<=(0:Int)/\0<=acM/\acM<=((l12.length:Nat):Int)/\0<l12.length)).bind fun u13=>
 (n_ ((0:Int)=0/\(acM - 0)<=((l12.length:Nat):Int)/\0<l12.length)).bind fun u14=>
 jJ3 (l12.take (acM - 0).toNat)
def TV (afK:Int) (apZ:Int) (alz:List (Int)):Option ((Int×Int×(List (Int)))⊕((Int×(List (Int))))):=
 some (.inl (apZ,(Ad (afK+1)),alz))
def TW (a1:Int) (afL:Int) (afK:Int) (abp:List (Int)):Option ((Int×Int×(List (Int)))⊕((Int×(List (Int))))):=
 (if(decide (afK<(abp.length:Int))) then
  jn (fun(v:Int×(List (Int)))=>TV afK v.1 v.2) (fun amP=>
  (idx abp afK).bind fun e30=>
  (idx abp afK).bind fun e31=>
  (if !(e31==a1) then
   (idx abp afL).bind fun e33=>
   (idx abp afL).bind fun e35=>
   (some (abp.set (afL).toNat e31)).bind fun l34=>
   amP ((Ad (afL+1)),l34)
  else
   amP (afL,abp)))
 else
  some (.inr (afL,abp)))
def VN (a1:Int) (r1:(List (Int))) (jJ3:((List (Int)))->Option ((List (Int)))) (ajO:Int):Option ((List (Int))):=
 (if(ajO==(-1:Int)) then
  jJ3 r1
 else
  jn (fun(v:Int×(List (Int)))=>VM jJ3 v.1 v.2) (fun jJ9=>
  (iter (fun(v:Int×Int×(List (Int)))=>TW a1 v.1 v.2.1 v.2.2) FU (ajO,(Ad (ajO+1)),r1)).bind (fun o0=>jJ9 (o0.1,o0.2))))
def TX (jJ5:(Int)->Option ((List (Int)))):Option ((List (Int))):=
 jJ5 (-1:Int)
def TY (a1:Int) (r1:(List (Int))) (agG:Int):Option ((Int)⊕(Unit⊕Int)):=
 (if(decide (agG<(r1.length:Int))) then
  (idx r1 agG).bind fun e42=>
  (idx r1 agG).bind fun e43=>
  (if e43==a1 then
   some (.inr (.inr agG))
  else
   some (.inl (Ad (agG+1))))
 else
  some (.inr (.inl ())))
def LE (a0:List (Int)) (a1:Int):Option ((List (Int))):=
 (Az a0).bind fun r1=>
 jn (fun(v:(List (Int)))=>VL v) (fun jJ3=>
 jn (fun(v:Int)=>VN a1 r1 jJ3 v) (fun jJ5=>
 jn (fun(v:Unit)=>TX jJ5) (fun aor=>
 (iter (fun(v:Int)=>TY a1 r1 v) FU (0:Int)).bind (Sum.elim (fun o0=>aor ()) (fun o1=>jJ5 o1)))))
def XL:CE TE Tryz.prog I0:=xN [BF] Aa Ac 9 131 Tryz.f131 (Tryz.f131.body.getD .skip) (.s .n (.s (.r [] [] (.q 1 .co (.j 3 ⟨[],[(8, .c (.c (.h_ [0,0,6])))],[],[([0,0,6], .row 3)]⟩ (.s (.r [] [] (.g 0 (.ug [8]) .n)) (.s (.r [] [] (.j 2 ⟨[0,1],[(10, .c (.v (.k (.int .i64))))],[[0,0,6],[3]],[]⟩ (.s (.r [] [] (.g 0 (.ug [0,1,10]) .n)) (.j ⟨[],[],[[0,0,6],[3]],[]⟩ (.s .n (.l ⟨[0,1,7],[(8, .c (.v (.k (.int .i64))))],[[0,0,6],[3]],[]⟩ [(1,⟨[],[],[[0,0,6],[3]],[]⟩),(0,⟨[],[(4, .c (.v (.k (.int .i64))))],[[0,0,6],[3]],[]⟩)] (.s .n (.s .n (.s (.s .n (.s (.r [] [] (.c 5 (.s (.r [] [] (.g 0 (.ug [0,1,5,7,8,16]) .n)) .n) .n)) .n)) .n))))) .n)) .n)) (.s .n (.j ⟨[0],[(5, .c (.v (.k (.int .i64))))],[],[([0,0,6], .row 3)]⟩ (.s .n (.l ⟨[0,1],[(5, .c (.v (.k (.int .i64)))),(6, .c (.v (.k (.int .i64))))],[[3]],[([0,0,6], .row 3)]⟩ [(1,⟨[0],[(5, .c (.v (.k (.int .i64))))],[],[([0,0,6], .row 3)]⟩)] (.s .n (.j ⟨[0,1,6],[(5, .c (.v (.k (.int .i64))))],[[3]],[([0,0,6], .row 3)]⟩ (.s .n (.s (.r [] [] (.c 2 (.s (.r [] [] (.g 0 (.ug [0,1,5,6,7,28]) .n)) .n) .n)) .n)) .n)))) (.s (.r [] [] (.q 2 (.sub true) (.q 3 .clr .n))) (.s (.r [] [] (.q 2 (.sub true) (.g 3 (.tr 41) .n))) .n)))))) .n))) .n)) [[1]] [.k (.u_ 3), .k (.int .i64)] [.k (.u_ 3)] (fun x=>LE x.1 x.2.1) Tryz.func131 rfl (by kernel_rfl)
def XM (a2:Int) (auj:Ar):Option (Ar):=
 some ({auj with aup:=a2==0})
def TZ (a0:Ar) (a1:Int) (a2:Int) (a3:Int) (a4:Int):Option (Ar):=
 (RE a1 a0.ab1 a0.C_ a2 a4).bind fun r1=>
 jn (fun(v:Ar)=>XM a2 v) (fun jJ3=>
 (some (if a2==0 then true else a2==5)).bind fun b4=>
 (if b4 then
  jJ3 ({{r1 with Token:=a0.Token}with Control:=a3})
 else
  jJ3 ({r1 with Token:=a0.Token})))
def bR:CE TE Tryz.prog I0:=AA [TJ] Aa Ac 9 92 Tryz.f92 (Tryz.f92.body.getD .skip) (.s .n (.s .n (.s .n (.j ⟨[2,10,11],[],[[10]],[([11], .box [.v (.s 66)])]⟩ .n .n)))) [.s 66, .k (.int .i64), .k (.int .i64), .k (.int .i64), .k (.int .i64)] [.s 66] (fun x=>TZ x.1 x.2.1 x.2.2.1 x.2.2.2.1 x.2.2.2.2.1) Tryz.func92 rfl (by kernel_rfl)
def bU:Option ((List (Int))):=
 some ([]:List (Int))
def bV (a0:Cc) (jJ1:(Unit)->Option ((List (Int)))) (ajP:Bool):Option ((List (Int))):=
 (if ajP then
  some ([(0:Int)]:List (Int))
 else
  (if a0.Kind==3 then
   (VG (if(a0.Options.length:Int)<(if a0.adA<0 then(0:Int)else a0.adA)then(a0.Options.length:Int)else(if a0.adA<0 then(0:Int)else a0.adA))).bind fun r6=>
   some r6
  else
   (if a0.Kind==4 then
    (VG (a0.Options.length:Int)).bind fun r8=>
    some r8
   else
    (if a0.Kind==5 then
     some ([a0.adA]:List (Int))
    else
     (if a0.Kind==8 then
      (if(decide (0<(a0.Options.length:Int))) then
       (n_ (0<=(a0.Options.length:Int)/\(a0.Options.length:Int)<=(a0.Options.length:Int)/\(a0.Options.length:Int)*8<=140737488355328/\(a0.Options.length:Int)<=maxLen)).bind fun u13=>
       (some (List.replicate ((a0.Options.length:Int)).toNat (0:Int))).bind fun l12=>
       (idx l12 (0:Int)).bind fun e14=>
       (idx l12 (0:Int)).bind fun e16=>
       (some (l12.set ((0:Int)).toNat a0.N)).bind fun l15=>
       some l15
      else
       jJ1 ())
     else
      jJ1 ())))))
def Pk (a0:Cc):Option ((List (Int))):=
 jn (fun(v:Unit)=>bU) (fun jJ1=>
 jn (fun(v:Bool)=>bV a0 jJ1 v) (fun jJ3=>
 (if a0.Kind==1 then
  jJ3 (a0.Kind==1)
 else
  (if a0.Kind==2 then
   jJ3 (a0.Kind==2)
  else
   (if a0.Kind==9 then
    jJ3 (a0.Kind==9)
   else
    (if a0.Kind==10 then
     jJ3 (a0.Kind==10)
    else
     jJ3 (a0.Kind==11)))))))
def dU:CE TE Tryz.prog I0:=AA [m8] Aa Ac 9 65 Tryz.f65 (Tryz.f65.body.getD .skip) (.s .n (.s .n (.j ⟨[],[],[],[]⟩ (.s .n (.j ⟨[1,3,9],[(10, .c (.v (.k (.bool))))],[[1]],[]⟩ .n .n)) .n))) [.s 81] [.k (.u_ 3)] (fun x=>Pk x.1) Tryz.func65 rfl (by kernel_rfl)
def Xh (a0:List (Int)) (a1:Int):Option (Int):=
 (ED a0 a1).bind fun r1=>
 some r1
def dV:CE TE Tryz.prog I0:=AA [GT] Aa Ac 9 139 Tryz.f139 (Tryz.f139.body.getD .skip) .n [.k (.u_ 3), .k (.int .i64)] [.k (.int .i64)] (fun x=>Xh x.1 x.2.1) Tryz.func139 rfl (by kernel_rfl)
def gV:Option (Bool):=
 some true
def Hz (a0:List UInt8) (ab5:Int):Option ((Int)⊕(Unit⊕Bool)):=
 (if(decide (ab5<(a0.length:Int))) then
  (IH a0 ab5).bind fun c14=>
  (TL c14).bind fun r15=>
  (gd ((!r15)==true) (IH a0 ab5)).bind fun c16=>
  (gd (((!r15)==true)&&((decide (c16<48))==false)) (IH a0 ab5)).bind fun c17=>
  (some (if decide (c16<48) then true else decide (57<c17))).bind fun b18=>
  (some (if !r15 then b18 else false)).bind fun b19=>
  (gd (b19==true) (IH a0 ab5)).bind fun c20=>
  (some (if b19 then c20 != 45 else false)).bind fun b21=>
  (if b21 then
   some (.inr (.inr false))
  else
   (gd ((decide (0<ab5))==true) (IH a0 ab5)).bind fun c23=>
   (some (if decide (0<ab5) then c23==45 else false)).bind fun b24=>
   (gd (b24==true) (IH a0 (Ad (ab5 - 1)))).bind fun c25=>
   (some (if b24 then c25==45 else false)).bind fun b26=>
   (if b26 then
    some (.inr (.inr false))
   else
    some (.inl (Ad (ab5+1)))))
 else
  some (.inr (.inl ())))
def VO (a0:List UInt8):Option (Bool):=
 (some (if(decide ((a0.length:Int)<1)) then true else decide (32<(a0.length:Int)))).bind fun b1=>
 (gd (b1==false) (IH a0 (0:Int))).bind fun c2=>
 (gd (b1==false) (TL c2)).bind fun r3=>
 (some (if b1 then true else !r3)).bind fun b4=>
 (gd (b4==false) (IH a0 (Ad ((a0.length:Int) - (1:Int))))).bind fun c5=>
 (some (if b4 then true else c5==45)).bind fun b6=>
 (if b6 then
  some false
 else
  jn (fun(v:Unit)=>gV) (fun jJ8=>
  (iter (fun(v:Int)=>Hz a0 v) FU (0:Int)).bind (Sum.elim (fun o0=>jJ8 ()) (fun o1=>some o1))))
def bW:CE TE Tryz.prog I0:=AA [uY] Aa Ac 9 42 Tryz.f42 (Tryz.f42.body.getD .skip) (.s .n (.s .n (.j ⟨[],[],[],[]⟩ (.s .n (.l ⟨[0],[(3, .c (.v (.k (.int .i64))))],[],[]⟩ [(1,⟨[],[],[],[]⟩),(0,⟨[],[(2, .c (.v (.k (.bool))))],[],[]⟩)] .n)) .n))) [.k (.str)] [.k (.bool)] (fun x=>VO x.1) Tryz.func42 rfl (by kernel_rfl)
def dW (aqf:List UInt8):Option ((List UInt8)):=
 some aqf
def bX (adZ:Int) (an8:List UInt8):Option (((List UInt8)×Int)⊕((List UInt8))):=
 some (.inl (an8,(Ad (adZ+1))))
def bY (a0:List (List UInt8)) (adZ:Int) (aaR:((List UInt8))->Option (((List UInt8)×Int)⊕((List UInt8)))) (an7:List UInt8):Option (((List UInt8)×Int)⊕((List UInt8))):=
 (idx a0 adZ).bind fun e16=>
 (cat an7 e16).bind fun s17=>
 aaR s17
def dX (a0:List (List UInt8)) (a1:Int) (a2:List UInt8) (agN:List UInt8) (adZ:Int):Option (((List UInt8)×Int)⊕((List UInt8))):=
 (if(decide (adZ<(a0.length:Int))) then
  jn (fun(v:(List UInt8))=>bX adZ v) (fun aaR=>
  (Li a1 adZ).bind fun r12=>
  (if r12 then
   jn (fun(v:(List UInt8))=>bY a0 adZ aaR v) (fun adl=>
   (if(agN != ([]:List UInt8)) then
    (cat agN a2).bind fun s19=>
    adl s19
   else
    adl agN))
  else
   aaR agN))
 else
  some (.inr agN))
def bZ (a0:List (List UInt8)) (a1:Int) (a2:List UInt8):Option ((List UInt8)):=
 jn (fun(v:(List UInt8))=>dW v) (fun K_=>
 (iter (fun(v:(List UInt8)×Int)=>dX a0 a1 a2 v.1 v.2) FU (([]:List UInt8),(0:Int))).bind (fun o0=>K_ o0))
def kj:CE TE Tryz.prog I0:=AA [gR] Aa Ac 9 195 Tryz.f195 (Tryz.f195.body.getD .skip) (.s .n (.s .n (.j ⟨[],[(7, .c (.v (.k (.str))))],[],[]⟩ (.s .n (.l ⟨[0,1,2],[(7, .c (.v (.k (.str)))),(8, .c (.v (.k (.int .i64))))],[],[]⟩ [(1,⟨[],[(7, .c (.v (.k (.str))))],[],[]⟩)] (.s .n (.j ⟨[0,1,2,8],[(7, .c (.v (.k (.str))))],[],[]⟩ (.s .n (.i (.j ⟨[0,1,2,8],[(7, .c (.v (.k (.str))))],[],[]⟩ .n .n) .n)) .n)))) .n))) [.k (.u_ 9), .k (.int .i64), .k (.str)] [.k (.str)] (fun x=>bZ x.1 x.2.1 x.2.2.1) Tryz.func195 rfl (by kernel_rfl)
def nB (amB:List UInt8):Option ((List UInt8)):=
 some amB
def kk (acW:Int) (als:List UInt8):Option (((List UInt8)×Int)⊕((List UInt8))):=
 some (.inl (als,(Ad (acW+1))))
def kl (acW:Int) (adm:((List UInt8))->Option (((List UInt8)×Int)⊕((List UInt8)))) (alq:List UInt8):Option (((List UInt8)×Int)⊕((List UInt8))):=
 (Pg acW).bind fun r20=>
 (cat alq r20).bind fun s21=>
 adm s21
def km (a0:Int) (adP:List UInt8) (acW:Int):Option (((List UInt8)×Int)⊕((List UInt8))):=
 (if decide (acW<5) then
  jn (fun(v:(List UInt8))=>kk acW v) (fun adm=>
  (n_ (0<=acW)).bind fun u15=>
  (n_ ((Ad ((1:Int)*2 ^ (min (acW).toNat (IntKind.i64).bits))) ≠ 0)).bind fun u16=>
  (if((Int.tmod (Ad (Int.tdiv a0 (Ad ((1:Int)*2 ^ (min (acW).toNat (IntKind.i64).bits))))) (2:Int))==(1:Int)) then
   jn (fun(v:(List UInt8))=>kl acW adm v) (fun adV=>
   (if(adP != ([]:List UInt8)) then
    (cat adP K9).bind fun s23=>
    adV s23
   else
    adV adP))
  else
   adm adP))
 else
  some (.inr adP))
def Mv (a0:Int):Option ((List UInt8)):=
 (jZ a0).bind fun r1=>
 (if !r1 then
  some ([]:List UInt8)
 else
  (if a0==0 then
   some O6
  else
   jn (fun(v:(List UInt8))=>nB v) (fun jJ5=>
   (iter (fun(v:(List UInt8)×Int)=>km a0 v.1 v.2) FU (([]:List UInt8),(0:Int))).bind (fun o0=>jJ5 o0))))
def qW:CE TE Tryz.prog I0:=AA [yf,bG] Aa Ac 9 156 Tryz.f156 (Tryz.f156.body.getD .skip) (.s .n (.s .n (.s .n (.s .n (.j ⟨[],[(3, .c (.v (.k (.str))))],[],[]⟩ (.s .n (.l ⟨[0],[(3, .c (.v (.k (.str)))),(4, .c (.v (.k (.int .i64))))],[],[]⟩ [(1,⟨[],[(3, .c (.v (.k (.str))))],[],[]⟩)] (.s .n (.j ⟨[0,4],[(3, .c (.v (.k (.str))))],[],[]⟩ (.s .n (.i (.j ⟨[0,4],[(3, .c (.v (.k (.str))))],[],[]⟩ .n .n) .n)) .n)))) .n))))) [.k (.int .i64)] [.k (.str)] (fun x=>Mv x.1) Tryz.func156 rfl (by kernel_rfl)
def T0 (a0:Int):Option ((List UInt8)):=
 (some (if decide (a0<0) then true else decide (16<a0))).bind fun b1=>
 (if b1 then
  some ([]:List UInt8)
 else
  (gS).bind fun r3=>
  (idx r3 a0).bind fun e4=>
  some e4)
def b0:CE TE Tryz.prog I0:=AA [nh] Aa Ac 9 198 Tryz.f198 (Tryz.f198.body.getD .skip) .n [.k (.int .i64)] [.k (.str)] (fun x=>T0 x.1) Tryz.func198 rfl (by kernel_rfl)
def Dy (a0:Int):Option ((List UInt8)):=
 (if decide (a0<0) then
  (KA (IntKind.u64.wrap (0 - (IntKind.u64.wrap (a0))))).bind fun r2=>
  (cat AaU r2).bind fun s3=>
  some s3
 else
  (KA (IntKind.u64.wrap (a0))).bind fun r4=>
  some r4)
def RI:CE TE Tryz.prog I0:=AA [aiH] Aa Ac 9 159 Tryz.f159 (Tryz.f159.body.getD .skip) .n [.k (.int .i64)] [.k (.str)] (fun x=>Dy x.1) Tryz.func159 rfl (by kernel_rfl)
def Qe (a0:BV):Option (Bool):=
 (VI a0.aaH).bind fun r1=>
 (some (if r1 then a0.aaH.X==0 else false)).bind fun b2=>
 (some (if b2 then decide (0<=a0.acL)else false)).bind fun b3=>
 (some (if b3 then decide (a0.acL<=99)else false)).bind fun b4=>
 some b4
def nC:CE TE Tryz.prog I0:=AA [bB] Aa Ac 9 81 Tryz.f81 (Tryz.f81.body.getD .skip) .n [.s 96] [.k (.bool)] (fun x=>Qe x.1) Tryz.func81 rfl (by kernel_rfl)
def LF (a0:Int):Option (Bool):=
 (Ix a0).bind fun r1=>
 (gd ((r1 != ([]:List UInt8))==true) (KB a0)).bind fun r2=>
 (some (if !r2 then true else a0==9)).bind fun b3=>
 (some (if(r1 != ([]:List UInt8)) then b3 else false)).bind fun b4=>
 some b4
def XN:CE TE Tryz.prog I0:=AA [bK,TQ] Aa Ac 9 122 Tryz.f122 (Tryz.f122.body.getD .skip) .n [.k (.int .i64)] [.k (.bool)] (fun x=>LF x.1) Tryz.func122 rfl (by kernel_rfl)
def nD:Option (Bool):=
 some false
def nE (a1:Int) (r1:(List UInt8)) (aki:Int):Option ((Int)⊕(Unit⊕Bool)):=
 (if(decide (aki<(r1.length:Int))) then
  (IH r1 aki).bind fun c8=>
  (if c8==a1 then
   some (.inr (.inr true))
  else
   some (.inl (Ad (aki+1))))
 else
  some (.inr (.inl ())))
def Bv (a0:Int) (a1:Int):Option (Bool):=
 (nm a0).bind fun r1=>
 jn (fun(v:Unit)=>nD) (fun K_=>
 (iter (fun(v:Int)=>nE a1 r1 v) FU (0:Int)).bind (Sum.elim (fun o0=>K_ ()) (fun o1=>some o1)))
def qY:CE TE Tryz.prog I0:=AA [qS] Aa Ac 9 161 Tryz.f161 (Tryz.f161.body.getD .skip) (.s .n (.s .n (.j ⟨[],[],[],[]⟩ (.s .n (.l ⟨[1,5],[(6, .c (.v (.k (.int .i64))))],[],[]⟩ [(1,⟨[],[],[],[]⟩),(0,⟨[],[(4, .c (.v (.k (.bool))))],[],[]⟩)] .n)) .n))) [.k (.int .i64), .k (.int .u8)] [.k (.bool)] (fun x=>Bv x.1 x.2.1) Tryz.func161 rfl (by kernel_rfl)
def Pl:Option (Bool):=
 some true
def Pm (aam:Int):Option ((Int)⊕(Unit⊕Bool)):=
 some (.inl (Ad (aam+1)))
def C5 (a0:List (AO)) (a1:AO) (aam:Int) (akf:Int):Option ((Int)⊕(Unit⊕Bool)):=
 (idx a1.g_ aam).bind fun e12=>
 (if(decide (akf<(e12.f_.length:Int))) then
  (idx a1.g_ aam).bind fun e14=>
  (idx e14.f_ akf).bind fun e15=>
  (gd ((e15.Op==12)==true) (Qd a0 e15.ab1)).bind fun r16=>
  (some (if e15.Op==12 then !r16 else false)).bind fun b17=>
  (if b17 then
   some (.inr (.inr false))
  else
   some (.inl (Ad (akf+1))))
 else
  some (.inr (.inl ())))
def Dz (a0:List (AO)) (a1:AO) (aam:Int):Option ((Int)⊕(Unit⊕Bool)):=
 (if(decide (aam<(a1.g_.length:Int))) then
  jn (fun(v:Unit)=>Pm aam) (fun jJ7=>
  (iter (fun(v:Int)=>C5 a0 a1 aam v) FU (0:Int)).bind (Sum.elim (fun o0=>jJ7 ()) (fun o1=>some (.inr (.inr o1)))))
 else
  some (.inr (.inl ())))
def Lk (a0:List (AO)) (a1:AO):Option (Bool):=
 jn (fun(v:Unit)=>Pl) (fun jJ1=>
 (iter (fun(v:Int)=>Dz a0 a1 v) FU (0:Int)).bind (Sum.elim (fun o0=>jJ1 ()) (fun o1=>some o1)))
def dY:CE TE Tryz.prog I0:=AA [nr] Aa Ac 9 26 Tryz.f26 (Tryz.f26.body.getD .skip) (.s .n (.j ⟨[],[],[],[]⟩ (.s .n (.l ⟨[0,3],[(5, .c (.v (.k (.int .i64))))],[[3]],[]⟩ [(1,⟨[],[],[],[]⟩),(0,⟨[],[(4, .c (.v (.k (.bool))))],[],[]⟩)] (.s .n (.j ⟨[0,3,5],[],[[3]],[]⟩ (.s .n (.l ⟨[0,3,5],[(6, .c (.v (.k (.int .i64))))],[[3]],[]⟩ [(3,⟨[0,3,5],[],[[3]],[]⟩),(0,⟨[],[(4, .c (.v (.k (.bool))))],[],[]⟩)] .n)) .n)))) .n)) [.k (.u_ 51), .s 51] [.k (.bool)] (fun x=>Lk x.1 x.2.1) Tryz.func26 rfl (by kernel_rfl)
end Go.PL
