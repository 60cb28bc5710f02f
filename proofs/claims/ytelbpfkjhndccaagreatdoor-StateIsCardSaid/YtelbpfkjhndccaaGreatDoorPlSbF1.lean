/- Functions of the program, as partial functions in Lean, with proofs. -/
import Derived.Test.YtelbpfkjhndccaaGreatDoorPlSbB
namespace Go.PL
open Go Go.RowKit Go.Proofs
set_option maxRecDepth 100000
set_option linter.all false
set_option maxHeartbeats 4000000
attribute [local irreducible] Ak Ca BP
def CW (b3_7:AA):Option (AA):=
 some b3_7
def Dw (a0:AA) (b3_5:AA):Option (AA):=
 CW ({b3_5 with Filter:=a0.Filter})
def Db (b3_11:AA):Option (AA):=
 CW b3_11
def Dx (a0:AA) (b3_5:AA):Option (AA):=
 (if(a0.On==1)=true then
  (if(a0.Who==0)=true then
   Db ({{b3_5 with Who:=a0.Who}with Filter:=a0.Filter})
  else
   Db ({b3_5 with Who:=a0.Who}))
 else
  (if(a0.On==2)=true then
   Dw a0 b3_5
  else
   (if(a0.On==8)=true then
    Dw a0 b3_5
   else
    CW ({b3_5 with Who:=a0.Who}))))
def Dy (a0:AA) (b3_3:AA):Option (AA):=
 (if(a0.Do==5)=true then
  Dx a0 ({b3_3 with Zone:=a0.Zone})
 else
  Dx a0 b3_3)
def Dz (a0:AA) (b3_1:AA):Option (AA):=
 (if(a0.Do==7)=true then
  Dy a0 ({b3_1 with Counter:=a0.Counter})
 else
  Dy a0 b3_1)
def F5 (a0:AA):Option (AA):=
 (some (if(a0.Do==2)=true then true else a0.Do==4)).bind fun b18=>
 (some (if b18=true then true else a0.Do==7)).bind fun b19=>
 (if b19=true then
  Dz a0 (⟨a0.On,0,(⟨0,0,0,0,0,0,0,[],0,0,(⟨0,0⟩:Ac),(⟨0,0⟩:Ac),(⟨0,0⟩:Ac)⟩:Ag),a0.Do,a0.N,0,0⟩:AA)
 else
  Dz a0 (⟨a0.On,0,(⟨0,0,0,0,0,0,0,[],0,0,(⟨0,0⟩:Ac),(⟨0,0⟩:Ac),(⟨0,0⟩:Ac)⟩:Ag),a0.Do,0,0,0⟩:AA))
def TH (a0:AA) (r:AA):Prop:=Af Tryz.prog I0 129 [vA AX a0] (· =vA AX r)
theorem SP {a0:AA} {r:AA} (h:F5 a0=some r):TH a0 r:=by
 refine Af.bo Ae Tryz.func129 rfl Tryz.ntmps129 [.cell 2 49] fun _ _ _ _=>?_
 unfold F5 at h
 refine Rg [.a,.a] (sl 61 [(1,vP [1] (0)),(2,vP [2] (0))] [bx [2] [Aa 0,Aa 0,Aa 0,Aa 0,Aa 0,Aa 0,Aa 0,Aa 0,Aa 0,.str ([]),Aa 0,Aa 0,Aa 0,Aa 0,Aa 0,Aa 0,Aa 0,Aa 0,Aa 0,Aa 0,Aa 0,Aa 0],bx [1] (AX a0)]) (aN)<|Gg (nA 7) (uo [] [(3,vP [3] (0))] [.e (bx [3] [Aa a0.On,Aa 0,Aa 0,Aa 0,Aa 0,Aa 0,Aa 0,Aa 0,Aa 0,.str ([]),Aa 0,Aa 0,Aa 0,Aa 0,Aa 0,Aa 0,Aa 0,Aa 0,Aa a0.Do,Aa 0,Aa 0,Aa 0]),.k 0,.k 1]) (aC (And.intro (show True∧(True∧True)from⟨trivial,⟨trivial,trivial⟩⟩) pK)<|aN)<|Gj (X:=AA) (fun v=>(uo [] [] [.e (bx [3] (AX v)),.k 1,.k 2])) (fun v=>Dz a0 v=some r) ?_ ?_
 ·obtain⟨t0,i1,d1,j1,h⟩:=Ex h
  refine Gg [.a,.a,.a,.a,.a,.a,.a,(.v (vB t0)),.a,.a,.a,.a,(.v (vB d1))] (u [] [(21,vB d1)]) (aG ((a0.Do==2)==false)<|aG ((a0.Do==2)==false)<|aF (a0.Do==2)<|aB i1<|aG (t0==false)<|aG (t0==false)<|aF t0<|aB j1<|aN)<|iC h (fun h=>?_) (fun h=>?_)
  ·refine Ge (nA 4) (uo [] [(22,vP [1] (19)),(23,vI a0.N),(24,vP [3] (19))] [.s 0 [(19,Aa a0.N)],.k 1,.k 2]) (aN)<|Tn ⟨(⟨a0.On,0,(⟨0,0,0,0,0,0,0,[],0,0,(⟨0,0⟩:Ac),(⟨0,0⟩:Ac),(⟨0,0⟩:Ac)⟩:Ag),a0.Do,a0.N,0,0⟩:AA),h,wT⟩
  refine hK<|Tn ⟨(⟨a0.On,0,(⟨0,0,0,0,0,0,0,[],0,0,(⟨0,0⟩:Ac),(⟨0,0⟩:Ac),(⟨0,0⟩:Ac)⟩:Ag),a0.Do,0,0,0⟩:AA),h,wT⟩
 rintro n0 k0
 replace k0:Dz a0 n0=some r:=k0
 unfold Dz at k0
 refine Gj (X:=AA) (fun v=>(uo [] [] [.e (bx [3] (AX v)),.k 1,.k 2])) (fun v=>Dy a0 v=some r) ?_ ?_
 ·refine Gg (nA 3) (u [] [(27,vB (a0.Do==7))]) (aN)<|iC k0 (fun k0=>?_) (fun k0=>?_)
  ·refine Ge (nA 4) (uo [] [(28,vP [1] (21)),(29,vI a0.Counter),(30,vP [3] (21))] [.e (bx [3] (AX ({n0 with Counter:=a0.Counter}))),.k 1,.k 2]) (aN)<|Tn ⟨({n0 with Counter:=a0.Counter}),k0,wT⟩
  refine hK<|Tn ⟨n0,k0,wT⟩
 rintro o0 m0
 replace m0:Dy a0 o0=some r:=m0
 unfold Dy at m0
 refine Gj (X:=AA) (fun v=>(uo [] [] [.e (bx [3] (AX v)),.k 1,.k 2])) (fun v=>Dx a0 v=some r) ?_ ?_
 ·refine Gg (nA 3) (u [] [(33,vB (a0.Do==5))]) (aN)<|iC m0 (fun m0=>?_) (fun m0=>?_)
  ·refine Ge (nA 4) (uo [] [(34,vP [1] (20)),(35,vI a0.Zone),(36,vP [3] (20))] [.e (bx [3] (AX ({o0 with Zone:=a0.Zone}))),.k 1,.k 2]) (aN)<|Tn ⟨({o0 with Zone:=a0.Zone}),m0,wT⟩
  refine hK<|Tn ⟨o0,m0,wT⟩
 rintro j0 i0
 replace i0:Dx a0 j0=some r:=i0
 unfold Dx at i0
 refine Gj (X:=AA) (fun v=>(uo [1] [] [.e (bx [3] (AX v)),.k 1])) (fun v=>CW v=some r) ?_ ?_
 ·refine Gg [.a,.a] (u [] [(38,vI a0.On)]) (aN)<|hB<|hS<|hB<|Gj (X:=Unit) (fun v=>(u [38] [])) (fun v=>Dw a0 j0=some r) ?_ ?_
  ·refine hB<|hB<|hS<|hB<|hS<|hS<|Gg [.a,.a] (u [] [(39,vB (a0.On==1))]) (aN)<|iC i0 (fun i0=>?_) (fun i0=>?_)
   ·refine hE<|Te<|Te<|qX<|Tn<|Gj (X:=AA) (fun v=>(uo [1,38,39] [] [.e (bx [3] (AX v)),.k 1])) (fun v=>Db v=some r) ?_ ?_
    ·refine Gg (nA 4) (uo [38,39] [] [.e (bx [3] (AX ({j0 with Who:=a0.Who}))),.k 1,.k 2]) (aN)<|Rg (nA 3) (sl 61 [(1,vP [1] (0)),(2,vP [2] (0)),(3,vP [3] (0)),(50,vB (a0.Who==0))] [bx [3] (AX ({j0 with Who:=a0.Who})),bx [2] [Aa 0,Aa 0,Aa 0,Aa 0,Aa 0,Aa 0,Aa 0,Aa 0,Aa 0,.str ([]),Aa 0,Aa 0,Aa 0,Aa 0,Aa 0,Aa 0,Aa 0,Aa 0,Aa 0,Aa 0,Aa 0,Aa 0],bx [1] (AX a0)]) (aN)<|iC i0 (fun i0=>?_) (fun i0=>?_)
     ·refine Ge (nA 4) (uo [] [(51,vP [1] (2)),(52,vA As a0.Filter),(53,vP [3] (2))] [.e (bx [3] (AX ({{j0 with Who:=a0.Who}with Filter:=a0.Filter}))),.k 1,.k 2]) (aN)<|Tn ⟨({{j0 with Who:=a0.Who}with Filter:=a0.Filter}),i0,wT⟩
     refine hK<|Tn ⟨({j0 with Who:=a0.Who}),i0,wT⟩
    rintro x0 q0
    replace q0:Db x0=some r:=q0
    unfold Db at q0
    refine hE<|qY<|qY<|Te<|qY<|Te<|qX<|Tn ⟨x0,q0,wT⟩
   refine hK<|Tn<|hS<|Gg [.a,.a] (u [39] [(41,vB (a0.On==2))]) (aN)<|iC i0 (fun i0=>?_) (fun i0=>?_)
   ·refine hE<|Te<|Te<|qY<|Te<|qX<|qN<|Tn ⟨(),i0,wT⟩
   refine hK<|Tn<|Rg [.a,.a] (sl 61 [(1,vP [1] (0)),(2,vP [2] (0)),(3,vP [3] (0)),(43,vB (a0.On==8))] [bx [3] (AX j0),bx [2] [Aa 0,Aa 0,Aa 0,Aa 0,Aa 0,Aa 0,Aa 0,Aa 0,Aa 0,.str ([]),Aa 0,Aa 0,Aa 0,Aa 0,Aa 0,Aa 0,Aa 0,Aa 0,Aa 0,Aa 0,Aa 0,Aa 0],bx [1] (AX a0)]) (aN)<|iC i0 (fun i0=>?_) (fun i0=>?_)
   ·refine hE<|Te<|qY<|Te<|qY<|qX<|Tn ⟨(),i0,wT⟩
   refine hK<|Tn<|hE<|qY<|Te<|qY<|qY<|Te<|qX<|Tn<|Gg (nA 4) (uo [1,43] [] [.e (bx [3] (AX ({j0 with Who:=a0.Who}))),.k 1]) (aN)<|hE<|qX<|Tn ⟨({j0 with Who:=a0.Who}),i0,wT⟩
  rintro _ z0
  replace z0:Dw a0 j0=some r:=z0
  unfold Dw at z0
  refine Gg (nA 4) (uo [1] [] [.e (bx [3] (AX ({j0 with Filter:=a0.Filter}))),.k 1]) (aN)<|hE<|qY<|Te<|qX<|Tn ⟨({j0 with Filter:=a0.Filter}),z0,wT⟩
 rintro p0 y0
 replace y0:CW p0=some r:=y0
 unfold CW at y0
 exact Gg [.a,.a] (uo [3] [] [.e (bx [2] (AX p0))]) (aN)<|hR<|bE (vA AX p0) (.agg (AX p0)) (congrArg (vA AX) (sI y0))
def CM (b3_1:BC):Option (BC):=
 some b3_1
def Il (b3_3:BC):Option (BC):=
 CM ({b3_3 with ref:=true})
def Im (b3_5:BC):Option (BC):=
 Il ({b3_5 with amount:=true})
def C7 (a0:Int) (vt17_13:Bool):Option (BC):=
 (if vt17_13=true then
  Il (⟨false,false,false,false,false,false,false,false⟩:BC)
 else
  (if(a0==3)=true then
   CM (⟨true,false,false,true,false,false,false,false⟩:BC)
  else
   (if(a0==12)=true then
    CM (⟨true,true,false,false,true,false,false,false⟩:BC)
   else
    (if(a0==13)=true then
     CM (⟨true,false,false,false,false,false,false,true⟩:BC)
    else
     (if(a0==14)=true then
      CM (⟨false,false,false,false,false,false,true,false⟩:BC)
     else
      (if(a0==18)=true then
       CM (⟨true,true,false,false,false,true,false,false⟩:BC)
      else
       (if(a0==20)=true then
        CM (⟨false,true,false,false,false,false,false,false⟩:BC)
       else
        (if(a0==21)=true then
         CM (⟨false,false,false,false,false,true,false,false⟩:BC)
        else
         CM (⟨false,false,false,false,false,false,false,false⟩:BC)))))))))
def CG (a0:Int) (vt8_10:Bool):Option (BC):=
 (if vt8_10=true then
  Im (⟨false,false,false,false,false,false,false,false⟩:BC)
 else
  (if(a0==2)=true then
   C7 a0 (a0==2)
  else
   (if(a0==8)=true then
    C7 a0 (a0==8)
   else
    (if(a0==9)=true then
     C7 a0 (a0==9)
    else
     (if(a0==15)=true then
      C7 a0 (a0==15)
     else
      (if(a0==16)=true then
       C7 a0 (a0==16)
      else
       (if(a0==17)=true then
        C7 a0 (a0==17)
       else
        C7 a0 (a0==25))))))))
def In (a0:Int) (vt5_7:Bool):Option (BC):=
 (if vt5_7=true then
  Im (⟨false,false,true,false,false,false,false,false⟩:BC)
 else
  (if(a0==1)=true then
   CG a0 (a0==1)
  else
   (if(a0==4)=true then
    CG a0 (a0==4)
   else
    (if(a0==5)=true then
     CG a0 (a0==5)
    else
     (if(a0==6)=true then
      CG a0 (a0==6)
     else
      (if(a0==7)=true then
       CG a0 (a0==7)
      else
       (if(a0==19)=true then
        CG a0 (a0==19)
       else
        (if(a0==22)=true then
         CG a0 (a0==22)
        else
         CG a0 (a0==26)))))))))
def K3 (a0:Int):Option (BC):=
 (if(a0==10)=true then
  In a0 (a0==10)
 else
  In a0 (a0==11))
def bX (a0:Int) (r:BC):Prop:=Af Tryz.prog I0 134 [vI a0] (· =vA Eu r)
theorem ZA {a0:Int} {r:BC} (h:K3 a0=some r):bX a0 r:=by
 refine Af.bo Ae Tryz.func134 rfl Tryz.ntmps134 [.cell 2 172] fun _ _ _ _=>?_
 unfold K3 at h
 refine Gg [.a] (uo [] [(2,vP [2] (0))] [.e (bx [2] [.bool false,.bool false,.bool false,.bool false,.bool false,.bool false,.bool false,.bool false])]) (aN)<|Gg [.a] (uo [] [(3,vP [3] (0))] [.e (bx [3] [.bool false,.bool false,.bool false,.bool false,.bool false,.bool false,.bool false,.bool false]),.k 0]) (aN)<|Gj (X:=BC) (fun v=>(uo [0] [] [.e (bx [3] (Eu v)),.k 1])) (fun v=>CM v=some r) ?_ ?_
 ·refine Gg [.a] (u [0] [(4,vI a0)]) (aN)<|hB<|hS<|hB<|hS<|hB<|hS<|hB<|hS<|hB<|hS<|hB<|hS<|hB<|hS<|hB<|Gj (X:=BC) (fun v=>(uo [4] [] [.e (bx [3] (Eu v)),.k 1])) (fun v=>Il v=some r) ?_ ?_
  ·refine hB<|Gj (X:=BC) (fun v=>(uo [4] [] [.e (bx [3] (Eu v)),.k 1])) (fun v=>Im v=some r) ?_ ?_
   ·refine hB<|hS<|hB<|hS<|hS<|Gj (X:=Bool) (fun v=>(u [] [(5,vB v)])) (fun v=>In a0 v=some r) ?_ ?_
    ·refine Gg [.a,.a] (u [] [(5,vB (a0==10))]) (aN)<|iC h (fun h=>?_) (fun h=>?_)
     ·refine hK<|Tn ⟨(a0==10),h,wT⟩
     refine Ge [.a,.a] (u [] [(5,vB (a0==11)),(7,vB (a0==11))]) (aN)<|Tn ⟨(a0==11),h,wT⟩
    rintro z0 k0
    replace k0:In a0 z0=some r:=k0
    unfold In at k0
    refine iC k0 (fun k0=>?_) (fun k0=>?_)
    ·refine hE<|Te<|Te<|qX<|Tn<|Ge [.a,.a] (uo [] [(39,vP [3] (2))] [.s 0 [(2,.bool true)],.k 1]) (aN)<|qN<|Tn ⟨(⟨false,false,true,false,false,false,false,false⟩:BC),k0,wT⟩
    refine hK<|Tn<|hS<|Gj (X:=Bool) (fun v=>(u [5] [(8,vB v)])) (fun v=>CG a0 v=some r) ?_ ?_
    ·refine Gg [.a,.a] (u [5] [(8,vB (a0==1))]) (aN)<|iC k0 (fun k0=>?_) (fun k0=>?_)
     ·refine hK<|Tn ⟨(a0==1),k0,wT⟩
     refine Gg [.a,.a] (u [] [(8,vB (a0==4))]) (aN)<|iC k0 (fun k0=>?_) (fun k0=>?_)
     ·refine hK<|Tn ⟨(a0==4),k0,wT⟩
     refine Gg [.a,.a] (u [] [(8,vB (a0==5))]) (aN)<|iC k0 (fun k0=>?_) (fun k0=>?_)
     ·refine hK<|Tn ⟨(a0==5),k0,wT⟩
     refine Rg [.a,.a] (sl 56 [(2,vP [2] (0)),(3,vP [3] (0)),(4,vI a0),(8,vB (a0==6))] [bx [3] [.bool false,.bool false,.bool false,.bool false,.bool false,.bool false,.bool false,.bool false],bx [2] [.bool false,.bool false,.bool false,.bool false,.bool false,.bool false,.bool false,.bool false]]) (aN)<|iC k0 (fun k0=>?_) (fun k0=>?_)
     ·refine hK<|Tn ⟨(a0==6),k0,wT⟩
     refine Gg [.a,.a] (u [] [(8,vB (a0==7))]) (aN)<|iC k0 (fun k0=>?_) (fun k0=>?_)
     ·refine hK<|Tn ⟨(a0==7),k0,wT⟩
     refine Gg [.a,.a] (u [] [(8,vB (a0==19))]) (aN)<|iC k0 (fun k0=>?_) (fun k0=>?_)
     ·refine hK<|Tn ⟨(a0==19),k0,wT⟩
     refine Gg [.a,.a] (u [] [(8,vB (a0==22))]) (aN)<|iC k0 (fun k0=>?_) (fun k0=>?_)
     ·refine hK<|Tn ⟨(a0==22),k0,wT⟩
     refine Ge [.a,.a] (u [] [(8,vB (a0==26)),(16,vB (a0==26))]) (aN)<|Tn ⟨(a0==26),k0,wT⟩
    rintro y0 j0
    replace j0:CG a0 y0=some r:=j0
    unfold CG at j0
    refine iC j0 (fun j0=>?_) (fun j0=>?_)
    ·refine hE<|Te<|Te<|qY<|Te<|qX<|Tn ⟨(⟨false,false,false,false,false,false,false,false⟩:BC),j0,wT⟩
    refine hK<|Tn<|hS<|Gj (X:=Bool) (fun v=>(u [8] [(17,vB v)])) (fun v=>C7 a0 v=some r) ?_ ?_
    ·refine Gg [.a,.a] (u [8] [(17,vB (a0==2))]) (aN)<|iC j0 (fun j0=>?_) (fun j0=>?_)
     ·refine hK<|Tn ⟨(a0==2),j0,wT⟩
     refine Gg [.a,.a] (u [] [(17,vB (a0==8))]) (aN)<|iC j0 (fun j0=>?_) (fun j0=>?_)
     ·refine hK<|Tn ⟨(a0==8),j0,wT⟩
     refine Rg [.a,.a] (sl 56 [(2,vP [2] (0)),(3,vP [3] (0)),(4,vI a0),(17,vB (a0==9))] [bx [3] [.bool false,.bool false,.bool false,.bool false,.bool false,.bool false,.bool false,.bool false],bx [2] [.bool false,.bool false,.bool false,.bool false,.bool false,.bool false,.bool false,.bool false]]) (aN)<|iC j0 (fun j0=>?_) (fun j0=>?_)
     ·refine hK<|Tn ⟨(a0==9),j0,wT⟩
     refine Gg [.a,.a] (u [] [(17,vB (a0==15))]) (aN)<|iC j0 (fun j0=>?_) (fun j0=>?_)
     ·refine hK<|Tn ⟨(a0==15),j0,wT⟩
     refine Gg [.a,.a] (u [] [(17,vB (a0==16))]) (aN)<|iC j0 (fun j0=>?_) (fun j0=>?_)
     ·refine hK<|Tn ⟨(a0==16),j0,wT⟩
     refine Gg [.a,.a] (u [] [(17,vB (a0==17))]) (aN)<|iC j0 (fun j0=>?_) (fun j0=>?_)
     ·refine hK<|Tn ⟨(a0==17),j0,wT⟩
     refine Ge [.a,.a] (u [] [(17,vB (a0==25)),(24,vB (a0==25))]) (aN)<|Tn ⟨(a0==25),j0,wT⟩
    rintro x0 i0
    replace i0:C7 a0 x0=some r:=i0
    unfold C7 at i0
    refine iC i0 (fun i0=>?_) (fun i0=>?_)
    ·refine hE<|Te<|Te<|qY<|Te<|qY<|Te<|qX<|Tn ⟨(⟨false,false,false,false,false,false,false,false⟩:BC),i0,wT⟩
    refine hK<|Tn<|hS<|Gg [.a,.a] (u [17] [(25,vB (a0==3))]) (aN)<|iC i0 (fun i0=>?_) (fun i0=>?_)
    ·refine hE<|Te<|Te<|qY<|Te<|qY<|Te<|qY<|Te<|qX<|Tn<|Rg (nA 4) (sl 56 [(2,vP [2] (0)),(3,vP [3] (0))] [bx [3] [.bool true,.bool false,.bool false,.bool true,.bool false,.bool false,.bool false,.bool false],bx [2] [.bool false,.bool false,.bool false,.bool false,.bool false,.bool false,.bool false,.bool false]]) (aN)<|hE<|qY<|Te<|qY<|Te<|qY<|Te<|qY<|Te<|qY<|Te<|qY<|Te<|qX<|Tn ⟨(⟨true,false,false,true,false,false,false,false⟩:BC),i0,wT⟩
    refine hK<|Tn<|hS<|Rg [.a,.a] (sl 56 [(2,vP [2] (0)),(3,vP [3] (0)),(4,vI a0),(27,vB (a0==12))] [bx [3] [.bool false,.bool false,.bool false,.bool false,.bool false,.bool false,.bool false,.bool false],bx [2] [.bool false,.bool false,.bool false,.bool false,.bool false,.bool false,.bool false,.bool false]]) (aN)<|iC i0 (fun i0=>?_) (fun i0=>?_)
    ·refine hE<|Te<|Te<|qY<|Te<|qY<|Te<|qY<|Te<|qY<|Te<|qX<|Tn<|Gg (nA 6) (uo [4,27] [] [.s 0 [(0,.bool true),(1,.bool true),(4,.bool true)],.k 1]) (aN)<|hE<|qY<|Te<|qY<|Te<|qY<|Te<|qY<|Te<|qY<|Te<|qX<|Tn ⟨(⟨true,true,false,false,true,false,false,false⟩:BC),i0,wT⟩
    refine hK<|Tn<|hS<|Gg [.a,.a] (u [27] [(29,vB (a0==13))]) (aN)<|iC i0 (fun i0=>?_) (fun i0=>?_)
    ·refine hE<|Te<|Te<|qY<|Te<|qY<|Te<|qY<|Te<|qY<|Te<|qY<|Te<|qX<|Tn<|Gg (nA 4) (uo [4,29] [] [.s 0 [(0,.bool true),(7,.bool true)],.k 1]) (aN)<|hE<|qY<|Te<|qY<|Te<|qY<|Te<|qY<|Te<|qX<|Tn ⟨(⟨true,false,false,false,false,false,false,true⟩:BC),i0,wT⟩
    refine hK<|Tn<|hS<|Gg [.a,.a] (u [29] [(31,vB (a0==14))]) (aN)<|iC i0 (fun i0=>?_) (fun i0=>?_)
    ·refine hE<|Te<|Te<|qY<|Te<|qY<|Te<|qY<|Te<|qY<|Te<|qY<|Te<|qY<|Te<|qX<|Tn<|Gg [.a,.a] (uo [4,31] [] [.s 0 [(6,.bool true)],.k 1]) (aN)<|hE<|qY<|Te<|qY<|Te<|qY<|Te<|qX<|Tn ⟨(⟨false,false,false,false,false,false,true,false⟩:BC),i0,wT⟩
    refine hK<|Tn<|hS<|Gg [.a,.a] (u [31] [(33,vB (a0==18))]) (aN)<|iC i0 (fun i0=>?_) (fun i0=>?_)
    ·refine hE<|Te<|Te<|qY<|Te<|qY<|Te<|qY<|Te<|qY<|Te<|qY<|Te<|qY<|Te<|qY<|Te<|qX<|Tn<|Gg (nA 6) (uo [4,33] [] [.s 0 [(0,.bool true),(1,.bool true),(5,.bool true)],.k 1]) (aN)<|hE<|qY<|Te<|qY<|Te<|qX<|Tn ⟨(⟨true,true,false,false,false,true,false,false⟩:BC),i0,wT⟩
    refine hK<|Tn<|hS<|Gg [.a,.a] (u [33] [(35,vB (a0==20))]) (aN)<|iC i0 (fun i0=>?_) (fun i0=>?_)
    ·refine hE<|Te<|Te<|qY<|Te<|qY<|Te<|qY<|Te<|qY<|Te<|qY<|Te<|qY<|Te<|qY<|Te<|qY<|Te<|qX<|Tn<|Gg [.a,.a] (uo [4,35] [] [.s 0 [(1,.bool true)],.k 1]) (aN)<|hE<|qY<|Te<|qX<|Tn ⟨(⟨false,true,false,false,false,false,false,false⟩:BC),i0,wT⟩
    refine hK<|Tn<|Gg [.a,.a] (u [4,35] [(37,vB (a0==21))]) (aN)<|iC i0 (fun i0=>?_) (fun i0=>?_)
    ·refine hE<|Te<|qY<|Te<|qY<|Te<|qY<|Te<|qY<|Te<|qY<|Te<|qY<|Te<|qY<|Te<|qY<|Te<|qY<|Te<|qX<|Tn<|Gg [.a,.a] (uo [37] [] [.s 0 [(5,.bool true)],.k 1]) (aN)<|hE<|qX<|Tn ⟨(⟨false,false,false,false,false,true,false,false⟩:BC),i0,wT⟩
    refine hK<|Tn<|hE<|qY<|Te<|qY<|Te<|qY<|Te<|qY<|Te<|qY<|Te<|qY<|Te<|qY<|Te<|qY<|Te<|qY<|Te<|qY<|Te<|qX<|Tn ⟨(⟨false,false,false,false,false,false,false,false⟩:BC),i0,wT⟩
   rintro o0 t0
   replace t0:Im o0=some r:=t0
   unfold Im at t0
   refine Ge [.a,.a] (uo [] [(40,vP [3] (1))] [.e (bx [3] (Eu ({o0 with amount:=true}))),.k 1]) (aN)<|qN<|Tn ⟨({o0 with amount:=true}),t0,wT⟩
  rintro n0 q0
  replace q0:Il n0=some r:=q0
  unfold Il at q0
  refine Gg [.a,.a] (uo [] [] [.e (bx [3] (Eu ({n0 with ref:=true}))),.k 1]) (aN)<|hE<|qY<|Te<|qY<|Te<|qY<|Te<|qY<|Te<|qY<|Te<|qY<|Te<|qY<|Te<|qX<|Tn ⟨({n0 with ref:=true}),q0,wT⟩
 rintro m0 p0
 replace p0:CM m0=some r:=p0
 unfold CM at p0
 exact Gg [.a,.a] (uo [3] [] [.e (bx [2] (Eu m0))]) (aN)<|hR<|bE (vA Eu m0) (.agg (Eu m0)) (congrArg (vA Eu) (sI p0))
def D6 (b1_1:Bm):Option (Bm):=
 some ({b1_1 with Kind:=(0:Int)})
def E4 (b1_3:Bm):Option (Bm):=
 D6 ({b1_3 with N:=(0:Int)})
def LO (a0:Bm):Option (Bm):=
 (if(a0.Kind==2)=true then
  E4 ({a0 with Filter:=(⟨0,0,0,0,0,0,0,[],0,0,(⟨0,0⟩:Ac),(⟨0,0⟩:Ac),(⟨0,0⟩:Ac)⟩:Ag)})
 else
  (if(a0.Kind==0)=true then
   E4 a0
  else
   (if(a0.Kind==4)=true then
    D6 ({a0 with Counter:=(0:Int)})
   else
    D6 a0)))
def Xz (a0:Bm) (r:Bm):Prop:=Af Tryz.prog I0 224 [vA Br a0] (· =vA Br r)
theorem Ww {a0:Bm} {r:Bm} (h:LO a0=some r):Xz a0 r:=by
 refine Af.bo Ae Tryz.func224 rfl Tryz.ntmps224 [.cell 2 139] fun _ _ _ _=>?_
 unfold LO at h
 refine Rg [.a,.a] (sl 17 [(1,vP [1] (0)),(2,vP [2] (0))] [bx [2] [Aa 0,Aa 0,Aa 0,Aa 0,Aa 0,Aa 0,Aa 0,Aa 0,Aa 0,Aa 0,.str ([]),Aa 0,Aa 0,Aa 0,Aa 0,Aa 0,Aa 0,Aa 0,Aa 0],bx [1] (Br a0)]) (aN)<|Gj (X:=Bm) (fun v=>(uo [] [] [.k 0,.e (bx [1] (Br v))])) (fun v=>D6 v=some r) ?_ ?_
 ·refine Gg [.a,.a] (u [] [(4,vI a0.Kind)]) (aN)<|hB<|hS<|hB<|Gj (X:=Bm) (fun v=>(uo [4] [] [.k 0,.e (bx [1] (Br v))])) (fun v=>E4 v=some r) ?_ ?_
  ·refine hB<|hS<|hB<|hS<|hS<|Gg [.a,.a] (u [] [(5,vB (a0.Kind==2))]) (aN)<|iC h (fun h=>?_) (fun h=>?_)
   ·refine hE<|Te<|Te<|qX<|Tn<|Ge (nA 3) (uo [] [(11,.agg [Aa 0,Aa 0,Aa 0,Aa 0,Aa 0,Aa 0,Aa 0,.str ([]),Aa 0,Aa 0,Aa 0,Aa 0,Aa 0,Aa 0,Aa 0,Aa 0]),(12,vP [1] (3))] [.k 0,.e (bx [1] (Br ({a0 with Filter:=(⟨0,0,0,0,0,0,0,[],0,0,(⟨0,0⟩:Ac),(⟨0,0⟩:Ac),(⟨0,0⟩:Ac)⟩:Ag)})))]) (aC (And.intro trivial OJ)<|aN)<|qN<|Tn ⟨({a0 with Filter:=(⟨0,0,0,0,0,0,0,[],0,0,(⟨0,0⟩:Ac),(⟨0,0⟩:Ac),(⟨0,0⟩:Ac)⟩:Ag)}),h,wT⟩
   refine hK<|Tn<|hS<|Gg [.a,.a] (u [5] [(7,vB (a0.Kind==0))]) (aN)<|iC h (fun h=>?_) (fun h=>?_)
   ·refine hE<|Te<|Te<|qY<|Te<|qX<|Tn ⟨a0,h,wT⟩
   refine hK<|Tn<|Gg [.a,.a] (u [4,7] [(9,vB (a0.Kind==4))]) (aN)<|iC h (fun h=>?_) (fun h=>?_)
   ·refine hE<|Te<|qY<|Te<|qY<|Te<|qX<|Tn<|Gg [.a,.a] (uo [9] [] [.k 0,.e (bx [1] (Br ({a0 with Counter:=(0:Int)})))]) (aN)<|hE<|qX<|Tn ⟨({a0 with Counter:=(0:Int)}),h,wT⟩
   refine hK<|Tn<|hE<|qY<|Te<|qY<|Te<|qY<|Te<|qX<|Tn ⟨a0,h,wT⟩
  rintro j0 m0
  replace m0:E4 j0=some r:=m0
  unfold E4 at m0
  refine Gg [.a,.a] (uo [] [] [.k 0,.e (bx [1] (Br ({j0 with N:=(0:Int)})))]) (aN)<|hE<|qY<|Te<|qX<|Tn ⟨({j0 with N:=(0:Int)}),m0,wT⟩
 rintro i0 k0
 replace k0:D6 i0=some r:=k0
 unfold D6 at k0
 exact Gg [.a,.a] (uo [] [] [.k 0,.e (bx [1] (Br ({i0 with Kind:=(0:Int)})))]) (aN)<|Gg [.a,.a] (uo [1] [] [.e (bx [2] (Br ({i0 with Kind:=(0:Int)})))]) (aN)<|hR<|bE (vA Br ({i0 with Kind:=(0:Int)})) (.agg (Br ({i0 with Kind:=(0:Int)}))) (congrArg (vA Br) (sI k0))
def Q5 (a0:A6 (Int)):Option (AP):=
 (idx a0.l (0:Int)).bind fun e1=>
 some (⟨e1,0,(⟨a0.x1,a0.x2,a0.x3,a0.x4,a0.x5⟩:A5 (Int))⟩:AP)
def bY (a0:A6 (Int)) (r:AP):Prop:=Af Tryz.prog I0 225 [vA (QY (eI .i64)) a0] (· =vA Bu r)
theorem ZB {a0:A6 (Int)} {r:AP} (h:Q5 a0=some r):bY a0 r:=by
 refine Af.bo Ae Tryz.func225 rfl Tryz.ntmps225 [.cell 2 41] fun _ _ _ _=>?_
 unfold Q5 at h
 refine Rg [.a,.a] (sl 12 [(1,vP [1] (0)),(2,vP [2] (0))] [bx [2] [Aa 0,Aa 0,Aa (((⟨0,0,0,0,0⟩:A5 (Int))).x0),Aa (((⟨0,0,0,0,0⟩:A5 (Int))).x1),Aa (((⟨0,0,0,0,0⟩:A5 (Int))).x2),Aa (((⟨0,0,0,0,0⟩:A5 (Int))).x3),Aa (((⟨0,0,0,0,0⟩:A5 (Int))).x4)],bx [1] (QY (eI .i64) a0)]) (aN) ?_
 obtain⟨e1,i0,h⟩:=bS h
 exact Gg [.a,(.v (vI e1)),.a,.a,.a] (uo [] [(3,vP [3] (0))] [.e (bx [3] [Aa e1,Aa 0,Aa (((⟨0,0,0,0,0⟩:A5 (Int))).x0),Aa (((⟨0,0,0,0,0⟩:A5 (Int))).x1),Aa (((⟨0,0,0,0,0⟩:A5 (Int))).x2),Aa (((⟨0,0,0,0,0⟩:A5 (Int))).x3),Aa (((⟨0,0,0,0,0⟩:A5 (Int))).x4)]),.k 0,.k 1]) (aC (AI i0)<|aC (kx i0 (Fq .i64) (QY (eI .i64) a0) 0 6 0 1 false (vI e1))<|aC (Eq.refl (vI e1))<|aC (And.intro (show True∧True from⟨trivial,trivial⟩) hZ)<|aN)<|hS<|Ak.regN [0,1,4,5,7,15,3] 15 [.a,.a,.a,(.e 0 [Aa e1,Aa 0,Aa (((⟨a0.x1,a0.x2,a0.x3,a0.x4,a0.x5⟩:A5 (Int))).x0),Aa (((⟨a0.x1,a0.x2,a0.x3,a0.x4,a0.x5⟩:A5 (Int))).x1),Aa (((⟨a0.x1,a0.x2,a0.x3,a0.x4,a0.x5⟩:A5 (Int))).x2),Aa (((⟨a0.x1,a0.x2,a0.x3,a0.x4,a0.x5⟩:A5 (Int))).x3),Aa (((⟨a0.x1,a0.x2,a0.x3,a0.x4,a0.x5⟩:A5 (Int))).x4)])] [[3],[2],[1]] (fun n=>⟨[.undef,vP [1] (0),vP [2] (0),vP [3] (0),.undef,.undef,.undef,cond (Nat.testBit n 0) (vP [3] (2)) (.undef),cond (Nat.testBit n 1) (.c (.bsl [3] 2 5)) (.undef),cond (Nat.testBit n 2) (.c (.bsl [1] 1 5)) (.undef),cond (Nat.testBit n 3) (vI 5) (.undef),.undef],List.filterMap id [cond (Nat.testBit n 3) (some (bx [3] [Aa e1,Aa 0,Aa (((⟨a0.x1,a0.x2,a0.x3,a0.x4,a0.x5⟩:A5 (Int))).x0),Aa (((⟨a0.x1,a0.x2,a0.x3,a0.x4,a0.x5⟩:A5 (Int))).x1),Aa (((⟨a0.x1,a0.x2,a0.x3,a0.x4,a0.x5⟩:A5 (Int))).x2),Aa (((⟨a0.x1,a0.x2,a0.x3,a0.x4,a0.x5⟩:A5 (Int))).x3),Aa (((⟨a0.x1,a0.x2,a0.x3,a0.x4,a0.x5⟩:A5 (Int))).x4)])) (some (bx [3] [Aa e1,Aa 0,Aa (((⟨0,0,0,0,0⟩:A5 (Int))).x0),Aa (((⟨0,0,0,0,0⟩:A5 (Int))).x1),Aa (((⟨0,0,0,0,0⟩:A5 (Int))).x2),Aa (((⟨0,0,0,0,0⟩:A5 (Int))).x3),Aa (((⟨0,0,0,0,0⟩:A5 (Int))).x4)])),some (bx [2] [Aa 0,Aa 0,Aa (((⟨0,0,0,0,0⟩:A5 (Int))).x0),Aa (((⟨0,0,0,0,0⟩:A5 (Int))).x1),Aa (((⟨0,0,0,0,0⟩:A5 (Int))).x2),Aa (((⟨0,0,0,0,0⟩:A5 (Int))).x3),Aa (((⟨0,0,0,0,0⟩:A5 (Int))).x4)]),some (bx [1] (QY (eI .i64) a0))],[],[]⟩) [[],[0≤(0:Int)∧(0:Int)<((5:Nat):Int)∧(0:Int)≤((5:Nat):Int)∧((5:Nat):Int)≤((5:Nat):Int)],[0≤(1:Int)∧(1:Int)<((6:Nat):Int)∧(1:Int)≤((6:Nat):Int)∧((6:Nat):Int)≤((6:Nat):Int)],[[Aa e1,Aa 0,Aa (((⟨0,0,0,0,0⟩:A5 (Int))).x0),Aa (((⟨0,0,0,0,0⟩:A5 (Int))).x1),Aa (((⟨0,0,0,0,0⟩:A5 (Int))).x2),Aa (((⟨0,0,0,0,0⟩:A5 (Int))).x3),Aa (((⟨0,0,0,0,0⟩:A5 (Int))).x4)].take 2++((QY (eI .i64) a0).drop 1).take 5++[Aa e1,Aa 0,Aa (((⟨0,0,0,0,0⟩:A5 (Int))).x0),Aa (((⟨0,0,0,0,0⟩:A5 (Int))).x1),Aa (((⟨0,0,0,0,0⟩:A5 (Int))).x2),Aa (((⟨0,0,0,0,0⟩:A5 (Int))).x3),Aa (((⟨0,0,0,0,0⟩:A5 (Int))).x4)].drop (2+(((QY (eI .i64) a0).drop 1).take 5).length)=[Aa e1,Aa 0,Aa (((⟨a0.x1,a0.x2,a0.x3,a0.x4,a0.x5⟩:A5 (Int))).x0),Aa (((⟨a0.x1,a0.x2,a0.x3,a0.x4,a0.x5⟩:A5 (Int))).x1),Aa (((⟨a0.x1,a0.x2,a0.x3,a0.x4,a0.x5⟩:A5 (Int))).x2),Aa (((⟨a0.x1,a0.x2,a0.x3,a0.x4,a0.x5⟩:A5 (Int))).x3),Aa (((⟨a0.x1,a0.x2,a0.x3,a0.x4,a0.x5⟩:A5 (Int))).x4)],((none:Option (TypeId×Nat×Nat))=none)∧True]] BF (by kernel_rfl) (by kernel_rfl) (by decide) (D4.t (by kernel_rfl)) (by kernel_rfl) ⟨trivial,⟨(by decide),trivial⟩,⟨(by decide),trivial⟩,⟨(by kernel_rfl),⟨rfl,trivial⟩,trivial⟩,trivial⟩<|Tn<|Gs (uo [1,7,8,9,10] [] [.k 0,.k 1])<|Gg [.a,.a] (uo [3] [] [.e (bx [2] [Aa e1,Aa 0,Aa (((⟨a0.x1,a0.x2,a0.x3,a0.x4,a0.x5⟩:A5 (Int))).x0),Aa (((⟨a0.x1,a0.x2,a0.x3,a0.x4,a0.x5⟩:A5 (Int))).x1),Aa (((⟨a0.x1,a0.x2,a0.x3,a0.x4,a0.x5⟩:A5 (Int))).x2),Aa (((⟨a0.x1,a0.x2,a0.x3,a0.x4,a0.x5⟩:A5 (Int))).x3),Aa (((⟨a0.x1,a0.x2,a0.x3,a0.x4,a0.x5⟩:A5 (Int))).x4)])]) (aN)<|hR<|bE (.agg [Aa e1,Aa 0,Aa (((⟨a0.x1,a0.x2,a0.x3,a0.x4,a0.x5⟩:A5 (Int))).x0),Aa (((⟨a0.x1,a0.x2,a0.x3,a0.x4,a0.x5⟩:A5 (Int))).x1),Aa (((⟨a0.x1,a0.x2,a0.x3,a0.x4,a0.x5⟩:A5 (Int))).x2),Aa (((⟨a0.x1,a0.x2,a0.x3,a0.x4,a0.x5⟩:A5 (Int))).x3),Aa (((⟨a0.x1,a0.x2,a0.x3,a0.x4,a0.x5⟩:A5 (Int))).x4)]) (.agg (Bu (⟨e1,0,(⟨a0.x1,a0.x2,a0.x3,a0.x4,a0.x5⟩:A5 (Int))⟩:AP))) (congrArg (vA Bu) (sI h))
def Nq (a0:AP):Option (Bool):=
 (some (if(decide (0≤a0.Generic))=true then decide (a0.Generic≤99)else false)).bind fun b2=>
 (some (if b2=true then decide (0≤a0.X)else false)).bind fun b3=>
 (some (if b3=true then decide (a0.X≤2)else false)).bind fun b4=>
 some b4
def FQ (a0:AP) (vt7_6:Int):Option ((Int)⊕(Unit⊕Unit)):=
 (if(decide (vt7_6<5))=true then
  (idx a0.Color.l vt7_6).bind fun e9=>
  (some (if(decide (e9<0))=true then true else decide (9<e9))).bind fun b10=>
  (if b10=true then
   some (.inr (.inr ()))
  else
   some (.inl (Ab (vt7_6+1))))
 else
  some (.inr (.inl ())))
def Q6 (a0:AP):Option (Bool):=
 (iter (fun(v:Int)=>FQ a0 v) FU (0:Int)).bind (Sum.elim (fun o0=>Nq a0) (fun o1=>some false))
def jy (a0:AP) (r:Bool):Prop:=Af Tryz.prog I0 135 [vA Bu a0] (· =vB r)
theorem Wx {a0:AP} {r:Bool} (h:Q6 a0=some r):jy a0 r:=by
 refine Af.bo Ae Tryz.func135 rfl Tryz.ntmps135 [.tmp 2] fun _ _ _ _=>?_
 unfold Q6 at h
 refine Rg [.a,.a] (sl 35 [(1,vP [1] (0))] [bx [1] (Bu a0)]) (aN)<|Gj (X:=Unit) (fun v=>(u [] [])) (fun v=>Nq a0=some r) ?_ ?_
 ·refine Gg (nA 3) (u [] [(6,vA (nl (eI .i64)) a0.Color),(7,vI 0)]) (aN)<|hB ?_
  obtain⟨d1,q0,h⟩:=bS h
  refine Gi (fun(v:Int)=>(u [] [(7,vI v)])) q0 (wT) ?_
  rintro j0 z0 i0 m0
  replace i0:FQ a0 j0=some z0:=i0
  unfold FQ at i0
  refine Gg [.a] (u [] [(8,vB (decide (j0<5)))]) (aN)<|hS<|iC i0 (fun i0=>?_) (fun i0=>?_)
  ·refine hK<|Tn<|hS<|hB ?_
   obtain⟨e9,o0,i0⟩:=bS i0
   refine Gg [(.v (vI e9)),.a] (u [8] [(4,vI e9)]) (aC (show (0≤j0∧j0<((5:Nat):Int))∧(j0).toNat *1+1≤(nl (eI .i64) a0.Color).length ∧O6 false ((j0).toNat *1) 1 (nl (eI .i64) a0.Color)=vI e9 from⟨AI o0,L4 (e:=eI .i64) (N:=1) (l:=a0.Color.l) (base:=0) (pre:=[]) (post:=[]) (by kernel_rfl) rfl o0 (Fq .i64) (o:=0) (by simp) (by decide) (by decide) (by kernel_rfl)⟩)<|aC (Eq.refl (vI e9))<|aN) ?_
   obtain⟨n0,p0,i0⟩:=bS i0
   refine Gg [.a,.a,.a,.a,.a,(.v (vB n0))] (u [4] [(15,vB n0)]) (aG ((decide (e9<0))==false)<|aF (decide (e9<0))<|aB p0<|aN)<|iC i0 (fun i0=>?_) (fun i0=>?_)
   ·refine Rg [.a] (sl 35 [(2,vB false)] []) (aN)<|hR<|qR<|Tr ?_
    obtain rfl:=m0 _ (sI i0).symm
    replace h:=Cy h
    exact Tr<|qR<|Tr<|bQ _ (kB h)
   refine hK<|qN<|Tn<|Ge [.a,.a] (u [] [(7,vI (Ab (j0+1))),(16,vI (Ab (j0+1)))]) (aN)<|Tn ⟨(Ab (j0+1)),(sI i0).symm,wT⟩
  refine hE<|Te ?_
  obtain rfl:=m0 _ (sI i0).symm
  replace h:=CZ h
  refine Te<|qX<|Tn ⟨(),h,wT⟩
 rintro _ k0
 replace k0:Nq a0=some r:=k0
 unfold Nq at k0
 obtain⟨b2,t0,b3,x0,b4,y0,k0⟩:=I8 k0
 exact Rg [.a,.a,.a,.a,.a,.a,.a,(.v (vB b2)),.a,.a,.a,.a,(.v (vB b3)),.a,.a,.a,.a,(.v (vB b4)),.a] (sl 35 [(2,vB b4)] []) (aG ((decide (0≤a0.Generic))==true)<|aG ((decide (0≤a0.Generic))==true)<|aT (decide (0≤a0.Generic))<|aB t0<|aG (b2==true)<|aG (b2==true)<|aT b2<|aB x0<|aG (b3==true)<|aG (b3==true)<|aT b3<|aB y0<|aN)<|hR<|bQ _ (kB k0)
def DG (who_t4_1:Bool):Option (Bool×Bool):=
 some (who_t4_1,true)
def BH (vt8_4:Bool):Option (Bool×Bool):=
 (if vt8_4=true then
  DG false
 else
  some (true,false))
def Fw (a0:Int):Option (Bool×Bool):=
 (if(a0==9)=true then
  DG true
 else
  (if(a0==1)=true then
   BH (a0==1)
  else
   (if(a0==2)=true then
    BH (a0==2)
   else
    (if(a0==3)=true then
     BH (a0==3)
    else
     (if(a0==4)=true then
      BH (a0==4)
     else
      (if(a0==5)=true then
       BH (a0==5)
      else
       (if(a0==6)=true then
        BH (a0==6)
       else
        (if(a0==7)=true then
         BH (a0==7)
        else
         BH (a0==14)))))))))
def Wy (a0:Int) (r:Bool×Bool):Prop:=Af Tryz.prog I0 138 [vI a0] (· = .tup [vB r.1,vB r.2])
theorem UR {a0:Int} {r:Bool×Bool} (h:Fw a0=some r):Wy a0 r:=by
 refine Af.bo Ae Tryz.func138 rfl Tryz.ntmps138 [.tmp 2, .tmp 3] fun _ _ _ _=>?_
 unfold Fw at h
 refine Gg [.a,.a] (u [] []) (aN)<|Gg [.a] (u [] [(4,vB false)]) (aN)<|hS<|Gg [.a] (u [0] [(5,vI a0)]) (aN)<|hB<|Sj (X:=Bool) (fun v=>(sl 18 [(4,vB v)] [])) (fun v=>DG v=some r) ?_ ?_
 ·refine hB<|hS<|hB<|hS<|hS<|Gg [.a,.a] (u [] [(6,vB (a0==9))]) (aN)<|iC h (fun h=>?_) (fun h=>?_)
  ·refine hE<|Te<|Te<|qX<|Tn<|Ge [.a] (u [] [(4,vB true)]) (aN)<|qN<|Tn ⟨true,h,wT⟩
  refine hK<|Tn<|Gj (X:=Bool) (fun v=>(u [5,6] [(8,vB v)])) (fun v=>BH v=some r) ?_ ?_
  ·refine Gg [.a,.a] (u [6] [(8,vB (a0==1))]) (aN)<|iC h (fun h=>?_) (fun h=>?_)
   ·refine hK<|Tn ⟨(a0==1),h,wT⟩
   refine Gg [.a,.a] (u [] [(8,vB (a0==2))]) (aN)<|iC h (fun h=>?_) (fun h=>?_)
   ·refine hK<|Tn ⟨(a0==2),h,wT⟩
   refine Gg [.a,.a] (u [] [(8,vB (a0==3))]) (aN)<|iC h (fun h=>?_) (fun h=>?_)
   ·refine hK<|Tn ⟨(a0==3),h,wT⟩
   refine Rg [.a,.a] (sl 18 [(4,vB false),(5,vI a0),(8,vB (a0==4))] []) (aN)<|iC h (fun h=>?_) (fun h=>?_)
   ·refine hK<|Tn ⟨(a0==4),h,wT⟩
   refine Gg [.a,.a] (u [] [(8,vB (a0==5))]) (aN)<|iC h (fun h=>?_) (fun h=>?_)
   ·refine hK<|Tn ⟨(a0==5),h,wT⟩
   refine Gg [.a,.a] (u [] [(8,vB (a0==6))]) (aN)<|iC h (fun h=>?_) (fun h=>?_)
   ·refine hK<|Tn ⟨(a0==6),h,wT⟩
   refine Gg [.a,.a] (u [] [(8,vB (a0==7))]) (aN)<|iC h (fun h=>?_) (fun h=>?_)
   ·refine hK<|Tn ⟨(a0==7),h,wT⟩
   refine Ge [.a,.a] (u [] [(8,vB (a0==14)),(16,vB (a0==14))]) (aN)<|Tn ⟨(a0==14),h,wT⟩
  rintro m0 j0
  replace j0:BH m0=some r:=j0
  unfold BH at j0
  refine iC j0 (fun j0=>?_) (fun j0=>?_)
  ·refine hE<|Te<|qY<|Te<|qX<|Tn ⟨false,j0,wT⟩
  exact hK<|Tn<|hE<|qY<|Te<|qY<|Te<|qX<|Tn<|Rg [.a,.a] (sl 18 [(2,vB true),(3,vB false)] []) (aN)<|hR<|bQ (.tup [vB true,vB false]) (congrArg (fun(q:Bool×Bool)=>(.tup [vB q.1,vB q.2]:V)) (sI j0))
 rintro i0 k0
 replace k0:DG i0=some r:=k0
 unfold DG at k0
 exact hS<|Rg (nA 3) (sl 18 [(2,vB i0),(3,vB true)] []) (aN)<|hR<|Tr<|qR<|Tr<|bQ (.tup [vB i0,vB true]) (congrArg (fun(q:Bool×Bool)=>(.tup [vB q.1,vB q.2]:V)) (sI k0))
def NV:Option (Bool):=
 some true
def NW (a0:List (Int)) (i_t3_3:Int):Option ((Int)⊕(Unit⊕Unit)):=
 (if(decide (i_t3_3<(a0.length:Int)))=true then
  (idx a0 (Ab (i_t3_3 - 1))).bind fun e6=>
  (idx a0 i_t3_3).bind fun e7=>
  (if(decide (e7≤e6))=true then
   some (.inr (.inr ()))
  else
   some (.inl (Ab (i_t3_3+1))))
 else
  some (.inr (.inl ())))
def Nr (a0:List (Int)):Option (Bool):=
 (iter (fun(v:Int)=>NW a0 v) FU (1:Int)).bind (Sum.elim (fun o0=>NV) (fun o1=>some false))
def fo (a0:List (Int)) (r:Bool):Prop:=Af Tryz.prog I0 47 [vL (eI .i64) a0] (· =vB r)
theorem bZ {a0:List (Int)} {r:Bool} (h:Nr a0=some r):fo a0 r:=by
 refine Af.bo Ae Tryz.func47 rfl Tryz.ntmps47 [.tmp 2] fun _ _ _ _=>?_
 unfold Nr at h
 refine Gg [.a] (u [] []) (aN)<|Sj (X:=Unit) (fun v=>(sl 20 [] [])) (fun v=>NV=some r) ?_ ?_
 ·refine Gg [.a] (u [] [(3,vI 1)]) (aN)<|hB ?_
  obtain⟨t0,p0,h⟩:=bS h
  refine Gi (fun(v:Int)=>(u [] [(3,vI v)])) p0 (wT) ?_
  rintro j0 q0 i0 m0
  replace i0:NW a0 j0=some q0:=i0
  unfold NW at i0
  refine hS<|Gg (nA 4) (u [] [(7,vB (decide (j0<(a0.length:Int))))]) (aN)<|iC i0 (fun i0=>?_) (fun i0=>?_)
  ·refine hK<|Tn<|hS<|hB ?_
   obtain⟨e6,n0,e7,o0,i0⟩:=Ex i0
   refine Gq BF [.a,.a,.a,.a,(.v (vI e6)),.a,.a,.a,(.v (vI e7)),.a] (u [7] [(19,vB (decide (e7≤e6)))]) (aC (AI n0)<|aC (DI n0 (Fq .i64) 0 1 false (vI e6))<|aC (Eq.refl (vI e6))<|aC (AI o0)<|aC (DI o0 (Fq .i64) 0 1 false (vI e7))<|aC (Eq.refl (vI e7))<|aN)<|iC i0 (fun i0=>?_) (fun i0=>?_)
   ·refine Rg [.a] (sl 20 [(2,vB false)] []) (aN)<|hR<|qR<|Tr ?_
    obtain rfl:=m0 _ (sI i0).symm
    replace h:=Cy h
    exact Tr<|qR<|Tr<|bQ _ (kB h)
   refine hK<|qN<|Tn<|Ge (nA 3) (u [] [(3,vI (Ab (j0+1))),(8,vI j0),(9,vI (Ab (j0+1)))]) (aN)<|Tn ⟨(Ab (j0+1)),(sI i0).symm,wT⟩
  refine hE<|Te ?_
  obtain rfl:=m0 _ (sI i0).symm
  replace h:=CZ h
  refine Te<|qX<|Tn ⟨(),h,wT⟩
 rintro _ k0
 replace k0:NV=some r:=k0
 unfold NV at k0
 exact Rg [.a] (sl 20 [(2,vB true)] []) (aN)<|hR<|bQ _ (kB k0)
def Ef:Option (Bool):=
 some true
def F6 (a0:List (Int)) (a1:List (Int)) (vt13_4:Int):Option ((Int)⊕(Unit⊕Unit)):=
 (if(decide (vt13_4<(a0.length:Int)))=true then
  (idx a0 vt13_4).bind fun e7=>
  (idx a1 vt13_4).bind fun e8=>
  (if(e7 != e8)=true then
   some (.inr (.inr ()))
  else
   some (.inl (Ab (vt13_4+1))))
 else
  some (.inr (.inl ())))
def BO (a0:List (Int)) (a1:List (Int)):Option (Bool):=
 (if((a0.length:Int) != (a1.length:Int))=true then
  some false
 else
  (iter (fun(v:Int)=>F6 a0 a1 v) FU (0:Int)).bind (Sum.elim (fun o0=>Ef) (fun o1=>some false)))
def Po (a0:List (Int)) (a1:List (Int)) (r:Bool):Prop:=Af Tryz.prog I0 31 [vL (eI .i64) a0,vL (eI .i64) a1] (· =vB r)
theorem BS {a0:List (Int)} {a1:List (Int)} {r:Bool} (h:BO a0 a1=some r):Po a0 a1 r:=by
 refine Af.bo Ae Tryz.func31 rfl Tryz.ntmps31 [.tmp 4] fun _ _ _ _=>?_
 unfold BO at h
 refine Gg [.a] (u [] []) (aN)<|hS<|Gg (nA 5) (u [] [(10,vB ((a0.length:Int) != (a1.length:Int)))]) (aN)<|iC h (fun h=>?_) (fun h=>?_)
 ·exact Rg [.a] (sl 26 [(4,vB false)] []) (aN)<|hR<|Tr<|bQ _ (kB h)
 refine hK<|Tn<|Sj (X:=Unit) (fun v=>(sl 26 [] [])) (fun v=>Ef=some r) ?_ ?_
 ·refine Gg (nA 3) (u [10] [(12,vI (a0.length:Int)),(13,vI 0)]) (aN)<|hB ?_
  obtain⟨t0,p0,h⟩:=bS h
  refine Gi (fun(v:Int)=>(u [] [(13,vI v)])) p0 (wT) ?_
  rintro j0 q0 i0 m0
  replace i0:F6 a0 a1 j0=some q0:=i0
  unfold F6 at i0
  refine Gg [.a] (u [] [(14,vB (decide (j0<(a0.length:Int))))]) (aN)<|hS<|iC i0 (fun i0=>?_) (fun i0=>?_)
  ·refine hK<|Tn<|hS<|hB<|Gg [.a,.a] (u [14] [(5,vI j0)]) (aN) ?_
   obtain⟨e7,n0,e8,o0,i0⟩:=Ex i0
   refine Gq BF [.a,.a,.a,(.v (vI e7)),.a,.a,.a,(.v (vI e8)),.a] (u [5] [(24,vB (e7 != e8))]) (aC (AI n0)<|aC (DI n0 (Fq .i64) 0 1 false (vI e7))<|aC (Eq.refl (vI e7))<|aC (AI o0)<|aC (DI o0 (Fq .i64) 0 1 false (vI e8))<|aC (Eq.refl (vI e8))<|aN)<|iC i0 (fun i0=>?_) (fun i0=>?_)
   ·refine Rg [.a] (sl 26 [(4,vB false)] []) (aN)<|hR<|qR<|Tr ?_
    obtain rfl:=m0 _ (sI i0).symm
    replace h:=Cy h
    exact Tr<|qR<|Tr<|bQ _ (kB h)
   refine hK<|qN<|Tn<|Re [.a,.a] (sl 26 [(0,vL (eI .i64) a0),(1,vL (eI .i64) a1),(12,vI (a0.length:Int)),(13,vI (Ab (j0+1))),(24,vB (e7 != e8)),(25,vI (Ab (j0+1)))] []) (aN)<|Tn ⟨(Ab (j0+1)),(sI i0).symm,wT⟩
  refine hE<|Te ?_
  obtain rfl:=m0 _ (sI i0).symm
  replace h:=CZ h
  refine Te<|qX<|Tn ⟨(),h,wT⟩
 rintro _ k0
 replace k0:Ef=some r:=k0
 unfold Ef at k0
 exact Rg [.a] (sl 26 [(4,vB true)] []) (aN)<|hR<|bQ _ (kB k0)
def AC:Option (Bool):=
 some true
def AV (a0:List (Al)) (a1:List (Al)) (vt17_4:Int):Option ((Int)⊕(Unit⊕Unit)):=
 (if(decide (vt17_4<(a0.length:Int)))=true then
  (idx a0 vt17_4).bind fun e7=>
  (idx a1 vt17_4).bind fun e8=>
  (if(!(e7==e8))=true then
   some (.inr (.inr ()))
  else
   some (.inl (Ab (vt17_4+1))))
 else
  some (.inr (.inl ())))
def A1 (a0:List (Al)) (a1:List (Al)):Option (Bool):=
 (if((a0.length:Int) != (a1.length:Int))=true then
  some false
 else
  (iter (fun(v:Int)=>AV a0 a1 v) FU (0:Int)).bind (Sum.elim (fun o0=>AC) (fun o1=>some false)))
def BY (a0:List (Al)) (a1:List (Al)) (r:Bool):Prop:=Af Tryz.prog I0 59 [vL Ad a0,vL Ad a1, .c (.fn 30)] (· =vB r)
theorem BT {a0:List (Al)} {a1:List (Al)} {r:Bool} (h:A1 a0 a1=some r):BY a0 a1 r:=by
 refine Af.bo Ae Tryz.func59 rfl Tryz.ntmps59 [.tmp 6] fun _ _ _ _=>?_
 unfold A1 at h
 refine Gg [.a] (u [] []) (aN)<|hS<|Gg (nA 5) (u [] [(14,vB ((a0.length:Int) != (a1.length:Int)))]) (aN)<|iC h (fun h=>?_) (fun h=>?_)
 ·exact Rg [.a] (sl 32 [(6,vB false)] []) (aN)<|hR<|Tr<|bQ _ (kB h)
 refine hK<|Tn<|Sj (X:=Unit) (fun v=>(sl 32 [] [])) (fun v=>AC=some r) ?_ ?_
 ·refine Gg (nA 3) (u [0,14] [(15,vL Ad a0),(16,vI (a0.length:Int)),(17,vI 0)]) (aN)<|hB ?_
  obtain⟨t0,p0,h⟩:=bS h
  refine Gi (fun(v:Int)=>(u [] [(17,vI v)])) p0 (wT) ?_
  rintro j0 q0 i0 m0
  replace i0:AV a0 a1 j0=some q0:=i0
  unfold AV at i0
  refine Gg [.a] (u [] [(18,vB (decide (j0<(a0.length:Int))))]) (aN)<|hS<|iC i0 (fun i0=>?_) (fun i0=>?_)
  ·refine hK<|Tn<|hS<|hB ?_
   obtain⟨e7,n0,i0⟩:=bS i0
   refine Gg [.a,.a,(.v (vA Ad e7)),.a,.a,.a] (uo [18] [(7,vI j0),(8,vP [8] (0))] [.e (bx [8] (Ad e7))]) (aC (AI n0)<|aC (DI n0 Eh 0 19 true (vA Ad e7))<|aC (Eq.refl (vA Ad e7))<|aN) ?_
   obtain⟨e8,o0,i0⟩:=bS i0
   refine Gg [.a,.a,.a,(.v (vA Ad e8)),.a,.a] (uo [7] [(9,vP [9] (0))] [.e (bx [9] (Ad e8)),.k 0]) (aC (AI o0)<|aC (DI o0 Eh 0 19 true (vA Ad e8))<|aC (Eq.refl (vA Ad e8))<|aN)<|hS<|hO<|Rp 3 (nA 3) (sl 32 [(1,vL Ad a1),(2,.c (.fn 30)),(8,vP [8] (0)),(9,vP [9] (0)),(15,vL Ad a0),(16,vI (a0.length:Int)),(17,vI j0),(26,.c (.fn 30)),(27,vA Ad e7),(28,vA Ad e8)] [bx [9] (Ad e8),bx [8] (Ad e7)]) (aN)<|rI rfl rfl<|Ei 29 [vA Ad e7,vA Ad e8] [] Tryz.func30 Tryz.ntmps30 [.tmp 4] rfl rfl rfl rfl fun _ _ _ _=>Gg (nA 3) (uo [0,1] [(2,vP [2,29] (0)),(3,vP [3,29] (0))] [.e (bx [3,29] (Ad e8)),.e (bx [2,29] (Ad e7)),.k 0,.k 1]) (aN)<|Gg [.a,.a,(.v (vB (e7==e8))),.a] (uo [2,3] [(4,vB (e7==e8))] [.k 2,.k 3]) (aC (congrArg (fun z=>V.c (.bool (z))) (gY e7 e8))<|aN)<|hR<|nR (vB (e7==e8))<|Gw [.a] (u [] [(30,vB (!(e7==e8)))]) (aN)<|Tn<|iC i0 (fun i0=>?_) (fun i0=>?_)
   ·refine Rg [.a] (sl 32 [(6,vB false)] []) (aN)<|hR<|qR<|Tr ?_
    obtain rfl:=m0 _ (sI i0).symm
    replace h:=Cy h
    exact Tr<|qR<|Tr<|bQ _ (kB h)
   refine hK<|qN<|Tn<|Ge [.a,.a] (u [] [(17,vI (Ab (j0+1))),(31,vI (Ab (j0+1)))]) (aN)<|Tn ⟨(Ab (j0+1)),(sI i0).symm,wT⟩
  refine hE<|Te ?_
  obtain rfl:=m0 _ (sI i0).symm
  replace h:=CZ h
  refine Te<|qX<|Tn ⟨(),h,wT⟩
 rintro _ k0
 replace k0:AC=some r:=k0
 unfold AC at k0
 exact Rg [.a] (sl 32 [(6,vB true)] []) (aN)<|hR<|bQ _ (kB k0)
def AD:Option (Bool):=
 some true
def AW (a0:List (DJ)) (a1:List (DJ)) (vt17_4:Int):Option ((Int)⊕(Unit⊕Unit)):=
 (if(decide (vt17_4<(a0.length:Int)))=true then
  (idx a0 vt17_4).bind fun e7=>
  (idx a1 vt17_4).bind fun e8=>
  (if(!(e7==e8))=true then
   some (.inr (.inr ()))
  else
   some (.inl (Ab (vt17_4+1))))
 else
  some (.inr (.inl ())))
def A7 (a0:List (DJ)) (a1:List (DJ)):Option (Bool):=
 (if((a0.length:Int) != (a1.length:Int))=true then
  some false
 else
  (iter (fun(v:Int)=>AW a0 a1 v) FU (0:Int)).bind (Sum.elim (fun o0=>AD) (fun o1=>some false)))
def BZ (a0:List (DJ)) (a1:List (DJ)) (r:Bool):Prop:=Af Tryz.prog I0 116 [vL Bl a0,vL Bl a1, .c (.fn 62)] (· =vB r)
theorem BU {a0:List (DJ)} {a1:List (DJ)} {r:Bool} (h:A7 a0 a1=some r):BZ a0 a1 r:=by
 refine Af.bo Ae Tryz.func116 rfl Tryz.ntmps116 [.tmp 6] fun _ _ _ _=>?_
 unfold A7 at h
 refine Gg [.a] (u [] []) (aN)<|hS<|Gg (nA 5) (u [] [(14,vB ((a0.length:Int) != (a1.length:Int)))]) (aN)<|iC h (fun h=>?_) (fun h=>?_)
 ·exact Rg [.a] (sl 32 [(6,vB false)] []) (aN)<|hR<|Tr<|bQ _ (kB h)
 refine hK<|Tn<|Sj (X:=Unit) (fun v=>(sl 32 [] [])) (fun v=>AD=some r) ?_ ?_
 ·refine Gg (nA 3) (u [0,14] [(15,vL Bl a0),(16,vI (a0.length:Int)),(17,vI 0)]) (aN)<|hB ?_
  obtain⟨t0,p0,h⟩:=bS h
  refine Gi (fun(v:Int)=>(u [] [(17,vI v)])) p0 (wT) ?_
  rintro j0 q0 i0 m0
  replace i0:AW a0 a1 j0=some q0:=i0
  unfold AW at i0
  refine Gg [.a] (u [] [(18,vB (decide (j0<(a0.length:Int))))]) (aN)<|hS<|iC i0 (fun i0=>?_) (fun i0=>?_)
  ·refine hK<|Tn<|hS<|hB ?_
   obtain⟨e7,n0,i0⟩:=bS i0
   refine Gg [.a,.a,(.v (vA Bl e7)),.a,.a,.a] (uo [18] [(7,vI j0),(8,vP [8] (0))] [.e (bx [8] (Bl e7))]) (aC (AI n0)<|aC (DI n0 Wj 0 2 true (vA Bl e7))<|aC (Eq.refl (vA Bl e7))<|aN) ?_
   obtain⟨e8,o0,i0⟩:=bS i0
   refine Gg [.a,.a,.a,(.v (vA Bl e8)),.a,.a] (uo [7] [(9,vP [9] (0))] [.e (bx [9] (Bl e8)),.k 0]) (aC (AI o0)<|aC (DI o0 Wj 0 2 true (vA Bl e8))<|aC (Eq.refl (vA Bl e8))<|aN)<|hS<|hO<|Rp 3 (nA 3) (sl 32 [(1,vL Bl a1),(2,.c (.fn 62)),(8,vP [8] (0)),(9,vP [9] (0)),(15,vL Bl a0),(16,vI (a0.length:Int)),(17,vI j0),(26,.c (.fn 62)),(27,vA Bl e7),(28,vA Bl e8)] [bx [9] (Bl e8),bx [8] (Bl e7)]) (aN)<|rI rfl rfl<|Ei 29 [vA Bl e7,vA Bl e8] [] Tryz.func62 Tryz.ntmps62 [.tmp 4] rfl rfl rfl rfl fun _ _ _ _=>Gg (nA 3) (uo [0,1] [(2,vP [2,29] (0)),(3,vP [3,29] (0))] [.e (bx [3,29] (Bl e8)),.e (bx [2,29] (Bl e7)),.k 0,.k 1]) (aN)<|Gg [.a,.a,(.v (vB (e7==e8))),.a] (uo [2,3] [(4,vB (e7==e8))] [.k 2,.k 3]) (aC (congrArg (fun z=>V.c (.bool (z))) (ri e7 e8))<|aN)<|hR<|nR (vB (e7==e8))<|Gw [.a] (u [] [(30,vB (!(e7==e8)))]) (aN)<|Tn<|iC i0 (fun i0=>?_) (fun i0=>?_)
   ·refine Rg [.a] (sl 32 [(6,vB false)] []) (aN)<|hR<|qR<|Tr ?_
    obtain rfl:=m0 _ (sI i0).symm
    replace h:=Cy h
    exact Tr<|qR<|Tr<|bQ _ (kB h)
   refine hK<|qN<|Tn<|Ge [.a,.a] (u [] [(17,vI (Ab (j0+1))),(31,vI (Ab (j0+1)))]) (aN)<|Tn ⟨(Ab (j0+1)),(sI i0).symm,wT⟩
  refine hE<|Te ?_
  obtain rfl:=m0 _ (sI i0).symm
  replace h:=CZ h
  refine Te<|qX<|Tn ⟨(),h,wT⟩
 rintro _ k0
 replace k0:AD=some r:=k0
 unfold AD at k0
 exact Rg [.a] (sl 32 [(6,vB true)] []) (aN)<|hR<|bQ _ (kB k0)
def Jz (l3_1:List (Int)):Option ((List (Int))):=
 some l3_1
def F7 (vt9_5:Int) (l3_10:List (Int)):Option ((Int×(List (Int)))⊕((List (Int)))):=
 some (.inl ((Ab (vt9_5+1)),l3_10))
def L9 (a0:Ai) (vt9_5:Int) (l3_6:List (Int)):Option ((Int×(List (Int)))⊕((List (Int)))):=
 (if(decide (vt9_5<(a0.Players.length:Int)))=true then
  (idx a0.Players vt9_5).bind fun e12=>
  (if(!e12.Lost)=true then
   (app 8 l3_6 ([vt9_5]:List (Int))).bind fun l14=>
   F7 vt9_5 l14
  else
   F7 vt9_5 l3_6)
 else
  some (.inr l3_6))
def Pp (a0:Ai):Option ((List (Int))):=
 (iter (fun(v:Int×(List (Int)))=>L9 a0 v.1 v.2) FU ((0:Int),([]:List (Int)))).bind (fun o0=>Jz o0)
def Wz (a0:Ai) (r:(List (Int))):Prop:=Af Tryz.prog I0 67 [vA Aj a0] (· =vL (eI .i64) r)
theorem US {a0:Ai} {r:(List (Int))} (h:Pp a0=some r):Wz a0 r:=by
 refine Af.bo Ae Tryz.func67 rfl Tryz.ntmps67 [.tmp 2] fun _ _ _ _=>?_
 unfold Pp at h
 refine Rg [.a,.a] (sl 23 [(1,vP [1] (0))] [bx [1] (Aj a0)]) (aN)<|Gg [.a] (uo [] [(3,vO [3])] [.e (Bp [3] 3 1 (eI .i64) ([]:List (Int))),.k 0]) (aN)<|Sj (X:=(List (Int))) (fun v=>(sl 23 [(3,vO [3])] [Bp [3] 3 1 (eI .i64) v])) (fun v=>Jz v=some r) ?_ ?_
 ·refine Gg (nA 4) (uo [1] [(7,vL Ah a0.Players),(8,vI (a0.Players.length:Int)),(9,vI 0)] [.k 0]) (aN)<|hB ?_
  obtain⟨j1,d1,h⟩:=bS h
  refine Gi (fun(v:Int×(List (Int)))=>(uo [] [(9,vI v.1)] [.e (Bp [3] 3 1 (eI .i64) v.2)])) d1 (wT) ?_
  rintro⟨j0,n0⟩ z0 i0 i1
  replace i0:L9 a0 j0 n0=some z0:=i0
  unfold L9 at i0
  refine Gg [.a] (u [] [(10,vB (decide (j0<(a0.Players.length:Int))))]) (aN)<|hS<|iC i0 (fun i0=>?_) (fun i0=>?_)
  ·refine hK<|Tn<|Gj (X:=(List (Int))) (fun v=>(uo [10] [] [.e (Bp [3] 3 1 (eI .i64) v)])) (fun v=>F7 j0 v=some z0) ?_ ?_
   ·refine hB ?_
    obtain⟨m0,t0,i0⟩:=bS i0
    refine Gg [.a,.a,(.v (vA Ah m0)),.a,.a,.a] (uo [10] [(4,vI j0),(5,vP [5] (0))] [.e (bx [5] (Ah m0)),.k 0]) (aC (AI t0)<|aC (DI t0 Cp 0 14 true (vA Ah m0))<|aC (Eq.refl (vA Ah m0))<|aN)<|Gg (nA 3) (uo [5] [(16,vB (!m0.Lost))] [.k 1]) (aN)<|iC i0 (fun i0=>?_) (fun i0=>?_)
    ·obtain⟨p0,x0,i0⟩:=bS i0
     refine Ge [.a,.a,.a,(.e p0.length (p0.flatMap (eI .i64))),.a] (uo [] [(18,vI j0),(19,vO [19]),(20,vO [3])] [.e (Bp [3] 3 1 (eI .i64) p0),.e (Bp [19] 3 1 (eI .i64) ([j0]:List (Int)))]) (aC (ND x0 (eI .i64))<|aC (CJ x0)<|aN)<|qN<|Tn ⟨p0,i0,wT⟩
    refine hK<|qN<|Tn ⟨n0,i0,wT⟩
   rintro q0 k0
   replace k0:F7 j0 q0=some z0:=k0
   unfold F7 at k0
   refine Ge [.a,.a] (u [] [(9,vI (Ab (j0+1))),(21,vI (Ab (j0+1)))]) (aN)<|Tn ⟨((Ab (j0+1)),q0),(sI k0).symm,wT⟩
  refine hE<|Te ?_
  obtain rfl:=i1 _ (sI i0).symm
  refine Te<|qX<|Tn ⟨n0,h,wT⟩
 rintro y0 o0
 replace o0:Jz y0=some r:=o0
 unfold Jz at o0
 exact Gg [.a,.a] (u [3] [(2,vO [3])]) (aN)<|hR<|bE (vO [3]) (vL (eI .i64) y0) (congrArg (vL (eI .i64)) (sI o0))
def Dc (a0:List (AB)):Option (List (AB)):=if a0.length*152≤140737488355328∧a0.length≤maxLen then some a0 else none
theorem HV {a0 r:List (AB)} (h:Dc a0=some r):F1 Tryz.prog I0 69 [vL (Ah) a0] 73 14 (fun len cs=>len=r.length∧cs=r.flatMap (Ah)):=by
 refine F1.of (t:=2) (m:=8) Ae (by kernel_rfl) Tryz.func69 rfl rfl Tryz.ntmps69 ?_
 intro w0 av old gv
 unfold Dc at h
 split at h
 ·rename_i hb
  injection h with h;subst h
  refine Rg [.a] (sl 8 [(0,vL (Ah) a0)] []) (aN) ?_
  refine Ak.seq ?_
  refine Ak.seq ?_
  refine Ak.region ?_
  refine Rp 1 [.a] (sl 8 [(0,vL (Ah) a0),(3,vL (Ah) a0)] []) (aN) ?_
  refine Run.inl rfl rfl (E0.nilq (len:=a0.length) (cs:=a0.flatMap (Ah)) rfl (fun b hbn=>?_))
  refine Rw [] (sl 8 [(0,vL (Ah) a0),(3,vL (Ah) a0),(4,vB b)] []) (aN) ?_
  refine Tn ?_
  refine Ak.ifB b (by kernel_rfl) (fun hb1=>?_) (fun hb1=>?_)
  ·have h0:a0=[]:=List.length_eq_zero_iff.1 (hbn hb1)
   refine Rg [.a] (sl 8 [(2, .c (.osl [2]))] [Bp [2] 73 14 (Ah) ([]:List (AB))]) (aN) ?_
   refine Ak.ret ?_
   refine Tr ?_
   exact⟨.inr rfl, .inl ⟨[2],Bp [2] 73 14 (Ah) ([]:List (AB)),0,by kernel_rfl,by kernel_rfl,by kernel_rfl,by kernel_rfl,by rw [h0];exact⟨rfl,rfl⟩⟩⟩
  ·refine Ak.skip ?_
   refine Tn ?_
   have hr:app 152 ([]:List (AB)) a0=some a0:=by unfold app;rw [if_pos ⟨by simpa using hb.1,by simpa using hb.2⟩];rfl
   refine Rg [.a, .a,(.e a0.length (a0.flatMap (Ah))), .a] (sl 8 [(2, .c (.osl [5]))] [Bp [5] 73 14 (Ah) a0]) (aC (show (a0.flatMap (Ah)).length =a0.length*14 from Kf (enc:=Ah) (n:=14) Cp _)<|aC (ND hr (Ah))<|aC (CJ hr)<|aN) ?_
   refine Ak.ret ?_
   exact⟨.inr rfl, .inl ⟨[5],Bp [5] 73 14 (Ah) a0,a0.length,by kernel_rfl,by kernel_rfl,by kernel_rfl,EF _ (fun _=>rfl) _,⟨rfl,rfl⟩⟩⟩
 ·cases h
def BG (a0:List (Int)):Option (List (Int)):=if a0.length*8≤140737488355328∧a0.length≤maxLen then some a0 else none
theorem Od {a0 r:List (Int)} (h:BG a0=some r):F1 Tryz.prog I0 72 [vL (eI .i64) a0] 3 1 (fun len cs=>len=r.length∧cs=r.flatMap (eI .i64)):=by
 refine F1.of (t:=2) (m:=8) Ae (by kernel_rfl) Tryz.func72 rfl rfl Tryz.ntmps72 ?_
 intro w0 av old gv
 unfold BG at h
 split at h
 ·rename_i hb
  injection h with h;subst h
  refine Rg [.a] (sl 8 [(0,vL (eI .i64) a0)] []) (aN) ?_
  refine Ak.seq ?_
  refine Ak.seq ?_
  refine Ak.region ?_
  refine Rp 1 [.a] (sl 8 [(0,vL (eI .i64) a0),(3,vL (eI .i64) a0)] []) (aN) ?_
  refine Run.inl rfl rfl (E0.nilq (len:=a0.length) (cs:=a0.flatMap (eI .i64)) rfl (fun b hbn=>?_))
  refine Rw [] (sl 8 [(0,vL (eI .i64) a0),(3,vL (eI .i64) a0),(4,vB b)] []) (aN) ?_
  refine Tn ?_
  refine Ak.ifB b (by kernel_rfl) (fun hb1=>?_) (fun hb1=>?_)
  ·have h0:a0=[]:=List.length_eq_zero_iff.1 (hbn hb1)
   refine Rg [.a] (sl 8 [(2, .c (.osl [2]))] [Bp [2] 3 1 (eI .i64) ([]:List (Int))]) (aN) ?_
   refine Ak.ret ?_
   refine Tr ?_
   exact⟨.inr rfl, .inl ⟨[2],Bp [2] 3 1 (eI .i64) ([]:List (Int)),0,by kernel_rfl,by kernel_rfl,by kernel_rfl,by kernel_rfl,by rw [h0];exact⟨rfl,rfl⟩⟩⟩
  ·refine Ak.skip ?_
   refine Tn ?_
   have hr:app 8 ([]:List (Int)) a0=some a0:=by unfold app;rw [if_pos ⟨by simpa using hb.1,by simpa using hb.2⟩];rfl
   refine Rg [.a, .a,(.e a0.length (a0.flatMap (eI .i64))), .a] (sl 8 [(2, .c (.osl [5]))] [Bp [5] 3 1 (eI .i64) a0]) (aC (show (a0.flatMap (eI .i64)).length =a0.length*1 from Kf (enc:=eI .i64) (n:=1) (Fq .i64) _)<|aC (ND hr (eI .i64))<|aC (CJ hr)<|aN) ?_
   refine Ak.ret ?_
   exact⟨.inr rfl, .inl ⟨[5],Bp [5] 3 1 (eI .i64) a0,a0.length,by kernel_rfl,by kernel_rfl,by kernel_rfl,EF _ (fun _=>rfl) _,⟨rfl,rfl⟩⟩⟩
 ·cases h
def Pq (a0 r:List (Int)):Prop:=Af Tryz.prog I0 72 [vL (eI .i64) a0] (· =vL (eI .i64) r)
theorem BV {a0 r:List (Int)} (h:BG a0=some r):Pq a0 r:=F1.flat (Od h)
def B9 (a0:List (Al)):Option (List (Al)):=if a0.length*128≤140737488355328∧a0.length≤maxLen then some a0 else none
theorem HW {a0 r:List (Al)} (h:B9 a0=some r):F1 Tryz.prog I0 71 [vL (Ad) a0] 63 19 (fun len cs=>len=r.length∧cs=r.flatMap (Ad)):=by
 refine F1.of (t:=2) (m:=8) Ae (by kernel_rfl) Tryz.func71 rfl rfl Tryz.ntmps71 ?_
 intro w0 av old gv
 unfold B9 at h
 split at h
 ·rename_i hb
  injection h with h;subst h
  refine Rg [.a] (sl 8 [(0,vL (Ad) a0)] []) (aN) ?_
  refine Ak.seq ?_
  refine Ak.seq ?_
  refine Ak.region ?_
  refine Rp 1 [.a] (sl 8 [(0,vL (Ad) a0),(3,vL (Ad) a0)] []) (aN) ?_
  refine Run.inl rfl rfl (E0.nilq (len:=a0.length) (cs:=a0.flatMap (Ad)) rfl (fun b hbn=>?_))
  refine Rw [] (sl 8 [(0,vL (Ad) a0),(3,vL (Ad) a0),(4,vB b)] []) (aN) ?_
  refine Tn ?_
  refine Ak.ifB b (by kernel_rfl) (fun hb1=>?_) (fun hb1=>?_)
  ·have h0:a0=[]:=List.length_eq_zero_iff.1 (hbn hb1)
   refine Rg [.a] (sl 8 [(2, .c (.osl [2]))] [Bp [2] 63 19 (Ad) ([]:List (Al))]) (aN) ?_
   refine Ak.ret ?_
   refine Tr ?_
   exact⟨.inr rfl, .inl ⟨[2],Bp [2] 63 19 (Ad) ([]:List (Al)),0,by kernel_rfl,by kernel_rfl,by kernel_rfl,by kernel_rfl,by rw [h0];exact⟨rfl,rfl⟩⟩⟩
  ·refine Ak.skip ?_
   refine Tn ?_
   have hr:app 128 ([]:List (Al)) a0=some a0:=by unfold app;rw [if_pos ⟨by simpa using hb.1,by simpa using hb.2⟩];rfl
   refine Rg [.a, .a,(.e a0.length (a0.flatMap (Ad))), .a] (sl 8 [(2, .c (.osl [5]))] [Bp [5] 63 19 (Ad) a0]) (aC (show (a0.flatMap (Ad)).length =a0.length*19 from Kf (enc:=Ad) (n:=19) Eh _)<|aC (ND hr (Ad))<|aC (CJ hr)<|aN) ?_
   refine Ak.ret ?_
   exact⟨.inr rfl, .inl ⟨[5],Bp [5] 63 19 (Ad) a0,a0.length,by kernel_rfl,by kernel_rfl,by kernel_rfl,EF _ (fun _=>rfl) _,⟨rfl,rfl⟩⟩⟩
 ·cases h
def I9 (a0 r:List (Al)):Prop:=Af Tryz.prog I0 71 [vL (Ad) a0] (· =vL (Ad) r)
theorem Io {a0 r:List (Al)} (h:B9 a0=some r):I9 a0 r:=F1.flat (HW h)
def DO (a0:List (Cb)):Option (List (Cb)):=if a0.length*824≤140737488355328∧a0.length≤maxLen then some a0 else none
theorem JG {a0 r:List (Cb)} (h:DO a0=some r):F1 Tryz.prog I0 73 [vL (Au) a0] 57 94 (fun len cs=>len=r.length∧cs=r.flatMap (Au)):=by
 refine F1.of (t:=2) (m:=8) Ae (by kernel_rfl) Tryz.func73 rfl rfl Tryz.ntmps73 ?_
 intro w0 av old gv
 unfold DO at h
 split at h
 ·rename_i hb
  injection h with h;subst h
  refine Rg [.a] (sl 8 [(0,vL (Au) a0)] []) (aN) ?_
  refine Ak.seq ?_
  refine Ak.seq ?_
  refine Ak.region ?_
  refine Rp 1 [.a] (sl 8 [(0,vL (Au) a0),(3,vL (Au) a0)] []) (aN) ?_
  refine Run.inl rfl rfl (E0.nilq (len:=a0.length) (cs:=a0.flatMap (Au)) rfl (fun b hbn=>?_))
  refine Rw [] (sl 8 [(0,vL (Au) a0),(3,vL (Au) a0),(4,vB b)] []) (aN) ?_
  refine Tn ?_
  refine Ak.ifB b (by kernel_rfl) (fun hb1=>?_) (fun hb1=>?_)
  ·have h0:a0=[]:=List.length_eq_zero_iff.1 (hbn hb1)
   refine Rg [.a] (sl 8 [(2, .c (.osl [2]))] [Bp [2] 57 94 (Au) ([]:List (Cb))]) (aN) ?_
   refine Ak.ret ?_
   refine Tr ?_
   exact⟨.inr rfl, .inl ⟨[2],Bp [2] 57 94 (Au) ([]:List (Cb)),0,by kernel_rfl,by kernel_rfl,by kernel_rfl,by kernel_rfl,by rw [h0];exact⟨rfl,rfl⟩⟩⟩
  ·refine Ak.skip ?_
   refine Tn ?_
   have hr:app 824 ([]:List (Cb)) a0=some a0:=by unfold app;rw [if_pos ⟨by simpa using hb.1,by simpa using hb.2⟩];rfl
   refine Rg [.a, .a,(.e a0.length (a0.flatMap (Au))), .a] (sl 8 [(2, .c (.osl [5]))] [Bp [5] 57 94 (Au) a0]) (aC (show (a0.flatMap (Au)).length =a0.length*94 from Kf (enc:=Au) (n:=94) Ha _)<|aC (ND hr (Au))<|aC (CJ hr)<|aN) ?_
   refine Ak.ret ?_
   exact⟨.inr rfl, .inl ⟨[5],Bp [5] 57 94 (Au) a0,a0.length,by kernel_rfl,by kernel_rfl,by kernel_rfl,EF _ (fun _=>rfl) _,⟨rfl,rfl⟩⟩⟩
 ·cases h
def CS (a0:List (BI)):Option (List (BI)):=if a0.length*768≤140737488355328∧a0.length≤maxLen then some a0 else none
theorem HE {a0 r:List (BI)} (h:CS a0=some r):F1 Tryz.prog I0 76 [vL (Aq) a0] 59 89 (fun len cs=>len=r.length∧cs=r.flatMap (Aq)):=by
 refine F1.of (t:=2) (m:=8) Ae (by kernel_rfl) Tryz.func76 rfl rfl Tryz.ntmps76 ?_
 intro w0 av old gv
 unfold CS at h
 split at h
 ·rename_i hb
  injection h with h;subst h
  refine Rg [.a] (sl 8 [(0,vL (Aq) a0)] []) (aN) ?_
  refine Ak.seq ?_
  refine Ak.seq ?_
  refine Ak.region ?_
  refine Rp 1 [.a] (sl 8 [(0,vL (Aq) a0),(3,vL (Aq) a0)] []) (aN) ?_
  refine Run.inl rfl rfl (E0.nilq (len:=a0.length) (cs:=a0.flatMap (Aq)) rfl (fun b hbn=>?_))
  refine Rw [] (sl 8 [(0,vL (Aq) a0),(3,vL (Aq) a0),(4,vB b)] []) (aN) ?_
  refine Tn ?_
  refine Ak.ifB b (by kernel_rfl) (fun hb1=>?_) (fun hb1=>?_)
  ·have h0:a0=[]:=List.length_eq_zero_iff.1 (hbn hb1)
   refine Rg [.a] (sl 8 [(2, .c (.osl [2]))] [Bp [2] 59 89 (Aq) ([]:List (BI))]) (aN) ?_
   refine Ak.ret ?_
   refine Tr ?_
   exact⟨.inr rfl, .inl ⟨[2],Bp [2] 59 89 (Aq) ([]:List (BI)),0,by kernel_rfl,by kernel_rfl,by kernel_rfl,by kernel_rfl,by rw [h0];exact⟨rfl,rfl⟩⟩⟩
  ·refine Ak.skip ?_
   refine Tn ?_
   have hr:app 768 ([]:List (BI)) a0=some a0:=by unfold app;rw [if_pos ⟨by simpa using hb.1,by simpa using hb.2⟩];rfl
   refine Rg [.a, .a,(.e a0.length (a0.flatMap (Aq))), .a] (sl 8 [(2, .c (.osl [5]))] [Bp [5] 59 89 (Aq) a0]) (aC (show (a0.flatMap (Aq)).length =a0.length*89 from Kf (enc:=Aq) (n:=89) JV _)<|aC (ND hr (Aq))<|aC (CJ hr)<|aN) ?_
   refine Ak.ret ?_
   exact⟨.inr rfl, .inl ⟨[5],Bp [5] 59 89 (Aq) a0,a0.length,by kernel_rfl,by kernel_rfl,by kernel_rfl,EF _ (fun _=>rfl) _,⟨rfl,rfl⟩⟩⟩
 ·cases h
def DP (a0:List (E9)):Option (List (E9)):=if a0.length*80≤140737488355328∧a0.length≤maxLen then some a0 else none
theorem JH {a0 r:List (E9)} (h:DP a0=some r):F1 Tryz.prog I0 77 [vL (AF) a0] 61 6 (fun len cs=>len=r.length∧cs=r.flatMap (AF)):=by
 refine F1.of (t:=2) (m:=8) Ae (by kernel_rfl) Tryz.func77 rfl rfl Tryz.ntmps77 ?_
 intro w0 av old gv
 unfold DP at h
 split at h
 ·rename_i hb
  injection h with h;subst h
  refine Rg [.a] (sl 8 [(0,vL (AF) a0)] []) (aN) ?_
  refine Ak.seq ?_
  refine Ak.seq ?_
  refine Ak.region ?_
  refine Rp 1 [.a] (sl 8 [(0,vL (AF) a0),(3,vL (AF) a0)] []) (aN) ?_
  refine Run.inl rfl rfl (E0.nilq (len:=a0.length) (cs:=a0.flatMap (AF)) rfl (fun b hbn=>?_))
  refine Rw [] (sl 8 [(0,vL (AF) a0),(3,vL (AF) a0),(4,vB b)] []) (aN) ?_
  refine Tn ?_
  refine Ak.ifB b (by kernel_rfl) (fun hb1=>?_) (fun hb1=>?_)
  ·have h0:a0=[]:=List.length_eq_zero_iff.1 (hbn hb1)
   refine Rg [.a] (sl 8 [(2, .c (.osl [2]))] [Bp [2] 61 6 (AF) ([]:List (E9))]) (aN) ?_
   refine Ak.ret ?_
   refine Tr ?_
   exact⟨.inr rfl, .inl ⟨[2],Bp [2] 61 6 (AF) ([]:List (E9)),0,by kernel_rfl,by kernel_rfl,by kernel_rfl,by kernel_rfl,by rw [h0];exact⟨rfl,rfl⟩⟩⟩
  ·refine Ak.skip ?_
   refine Tn ?_
   have hr:app 80 ([]:List (E9)) a0=some a0:=by unfold app;rw [if_pos ⟨by simpa using hb.1,by simpa using hb.2⟩];rfl
   refine Rg [.a, .a,(.e a0.length (a0.flatMap (AF))), .a] (sl 8 [(2, .c (.osl [5]))] [Bp [5] 61 6 (AF) a0]) (aC (show (a0.flatMap (AF)).length =a0.length*6 from Kf (enc:=AF) (n:=6) Kh _)<|aC (ND hr (AF))<|aC (CJ hr)<|aN) ?_
   refine Ak.ret ?_
   exact⟨.inr rfl, .inl ⟨[5],Bp [5] 61 6 (AF) a0,a0.length,by kernel_rfl,by kernel_rfl,by kernel_rfl,EF _ (fun _=>rfl) _,⟨rfl,rfl⟩⟩⟩
 ·cases h
def Kq:Option (Bool):=
 some true
def Ip (a0:A6 (Int)) (i_t3_3:Int):Option ((Int)⊕(Unit⊕Unit)):=
 (if(decide (i_t3_3<6))=true then
  (idx a0.l i_t3_3).bind fun e6=>
  (gd ((decide (e6<0))==false) (idx a0.l i_t3_3)).bind fun e7=>
  (some (if(decide (e6<0))=true then true else decide (1000000<e7))).bind fun b8=>
  (if b8=true then
   some (.inr (.inr ()))
  else
   some (.inl (Ab (i_t3_3+1))))
 else
  some (.inr (.inl ())))
def ON (a0:A6 (Int)):Option (Bool):=
 (iter (fun(v:Int)=>Ip a0 v) FU (0:Int)).bind (Sum.elim (fun o0=>Kq) (fun o1=>some false))
def cd (a0:A6 (Int)) (r:Bool):Prop:=Af Tryz.prog I0 49 [vA (QY (eI .i64)) a0] (· =vB r)
theorem ZC {a0:A6 (Int)} {r:Bool} (h:ON a0=some r):cd a0 r:=by
 refine Af.bo Ae Tryz.func49 rfl Tryz.ntmps49 [.tmp 2] fun _ _ _ _=>?_
 unfold ON at h
 refine Rg [.a,.a] (sl 18 [(1,vP [1] (0))] [bx [1] (QY (eI .i64) a0)]) (aN)<|Sj (X:=Unit) (fun v=>(sl 18 [] [])) (fun v=>Kq=some r) ?_ ?_
 ·refine Gg [.a] (u [] [(3,vI 0)]) (aN)<|hB ?_
  obtain⟨x0,p0,h⟩:=bS h
  refine Gi (fun(v:Int)=>(u [] [(3,vI v)])) p0 (wT) ?_
  rintro j0 t0 i0 m0
  replace i0:Ip a0 j0=some t0:=i0
  unfold Ip at i0
  refine hS<|Gg [.a,.a] (u [] [(5,vB (decide (j0<6)))]) (aN)<|iC i0 (fun i0=>?_) (fun i0=>?_)
  ·refine hK<|Tn<|hS<|hB ?_
   obtain⟨e6,n0,e7,o0,b8,q0,i0⟩:=I8 i0
   refine Gg [.a,.a,(.v (vI e6)),.a,.a,.a,.a,(.v (vI e7)),.a,(.v (vB b8))] (u [5] [(17,vB b8)]) (aC (AI n0)<|aC (kx n0 (Fq .i64) (QY (eI .i64) a0) 0 6 0 1 false (vI e6))<|aC (Eq.refl (vI e6))<|aC (fun hg:((decide (e6<0))==false)=true=>aC (gi ((decide (e6<0))==false))<|aC (KW o0 hg).1<|aN)<|aC (fun hg:((decide (e6<0))==false)=true=>aC (gi ((decide (e6<0))==false))<|aC (kx (G8 o0 hg) (Fq .i64) (QY (eI .i64) a0) 0 6 0 1 false (vI e7))<|aC (Eq.refl (vI e7))<|aN)<|aG ((decide (e6<0))==false)<|aF (decide (e6<0))<|aB q0<|aN)<|iC i0 (fun i0=>?_) (fun i0=>?_)
   ·refine Rg [.a] (sl 18 [(2,vB false)] []) (aN)<|hR<|qR<|Tr ?_
    obtain rfl:=m0 _ (sI i0).symm
    replace h:=Cy h
    exact Tr<|qR<|Tr<|bQ _ (kB h)
   refine hK<|qN<|Tn<|Ge (nA 3) (u [] [(3,vI (Ab (j0+1))),(6,vI j0),(7,vI (Ab (j0+1)))]) (aN)<|Tn ⟨(Ab (j0+1)),(sI i0).symm,wT⟩
  refine hE<|Te ?_
  obtain rfl:=m0 _ (sI i0).symm
  replace h:=CZ h
  refine Te<|qX<|Tn ⟨(),h,wT⟩
 rintro _ k0
 replace k0:Kq=some r:=k0
 unfold Kq at k0
 exact Rg [.a] (sl 18 [(2,vB true)] []) (aN)<|hR<|bQ _ (kB k0)
def Ms:Option (Int):=
 some (-1:Int)
def Fx (a0:Ai) (a1:Int) (i_t5_3:Int):Option ((Int)⊕(Unit⊕Int)):=
 (if(decide (i_t5_3<(a0.Objects.length:Int)))=true then
  (idx a0.Objects i_t5_3).bind fun e7=>
  (if(e7.Id==a1)=true then
   some (.inr (.inr i_t5_3))
  else
   some (.inl (Ab (i_t5_3+1))))
 else
  some (.inr (.inl ())))
def Q7 (a0:Ai) (a1:Int):Option (Int):=
 (iter (fun(v:Int)=>Fx a0 a1 v) FU (0:Int)).bind (Sum.elim (fun o0=>Ms) (fun o1=>some o1))
def ce (a0:Ai) (a1:Int) (r:Int):Prop:=Af Tryz.prog I0 193 [vA Aj a0,vI a1] (· =vI r)
theorem ZD {a0:Ai} {a1:Int} {r:Int} (h:Q7 a0 a1=some r):ce a0 a1 r:=by
 refine Af.bo Ae Tryz.func193 rfl Tryz.ntmps193 [.tmp 4] fun _ _ _ _=>?_
 unfold Q7 at h
 refine Gg [.a,.a] (uo [0] [(2,vP [2] (0))] [.e (bx [2] (Aj a0))]) (aN)<|Sj (X:=Unit) (fun v=>(sl 22 [] [])) (fun v=>Ms=some r) ?_ ?_
 ·refine Gg [.a] (u [] [(5,vI 0)]) (aN)<|hB ?_
  obtain⟨q0,o0,h⟩:=bS h
  refine Gi (fun(v:Int)=>(u [] [(5,vI v)])) o0 (wT) ?_
  rintro j0 p0 i0 m0
  replace i0:Fx a0 a1 j0=some p0:=i0
  unfold Fx at i0
  refine hS<|Gg (nA 5) (u [] [(10,vB (decide (j0<(a0.Objects.length:Int))))]) (aN)<|iC i0 (fun i0=>?_) (fun i0=>?_)
  ·refine hK<|Tn<|hS<|hB ?_
   obtain⟨e7,n0,i0⟩:=bS i0
   refine Gg [.a,.a,.a,.a,.a,(.v (vI e7.Id)),.a,.a] (u [10] [(20,vB (e7.Id==a1))]) (aC (AI n0)<|aC (DI n0 Eh 0 1 false (vI e7.Id))<|aC (Eq.refl (vI e7.Id))<|aN)<|iC i0 (fun i0=>?_) (fun i0=>?_)
   ·refine Rg [.a,.a] (sl 22 [(4,vI j0)] []) (aN)<|hR<|qR<|Tr ?_
    obtain rfl:=m0 _ (sI i0).symm
    replace h:=Cy h
    exact Tr<|qR<|Tr<|bQ _ (congrArg vI (sI h))
   refine hK<|qN<|Tn<|Ge (nA 3) (u [] [(5,vI (Ab (j0+1))),(11,vI j0),(12,vI (Ab (j0+1)))]) (aN)<|Tn ⟨(Ab (j0+1)),(sI i0).symm,wT⟩
  refine hE<|Te ?_
  obtain rfl:=m0 _ (sI i0).symm
  replace h:=CZ h
  refine Te<|qX<|Tn ⟨(),h,wT⟩
 rintro _ k0
 replace k0:Ms=some r:=k0
 unfold Ms at k0
 exact Rg [.a] (sl 22 [(4,vI (-1:Int))] []) (aN)<|hR<|bQ _ (congrArg vI (sI k0))
def Mt (k_t5_1:Int):Option (Int):=
 some k_t5_1
def Hs (i_t6_6:Int) (k_t5_10:Int):Option ((Int×Int)⊕(Int)):=
 some (.inl (k_t5_10,(Ab (i_t6_6+1))))
def Kr (a0:List (Int)) (a1:Int) (k_t5_5:Int) (i_t6_6:Int):Option ((Int×Int)⊕(Int)):=
 (if(decide (i_t6_6<(a0.length:Int)))=true then
  (idx a0 i_t6_6).bind fun e12=>
  (if(e12==a1)=true then
   Hs i_t6_6 (Ab (k_t5_5+1))
  else
   Hs i_t6_6 k_t5_5)
 else
  some (.inr k_t5_5))
def MK (a0:List (Int)) (a1:Int):Option (Int):=
 (iter (fun(v:Int×Int)=>Kr a0 a1 v.1 v.2) FU ((0:Int),(0:Int))).bind (fun o0=>Mt o0)
def cf (a0:List (Int)) (a1:Int) (r:Int):Prop:=Af Tryz.prog I0 100 [vL (eI .i64) a0,vI a1] (· =vI r)
theorem SQ {a0:List (Int)} {a1:Int} {r:Int} (h:MK a0 a1=some r):cf a0 a1 r:=by
 refine Af.bo Ae Tryz.func100 rfl Tryz.ntmps100 [.tmp 4] fun _ _ _ _=>?_
 unfold MK at h
 refine Gg [.a] (u [] []) (aN)<|Gg [.a] (u [] [(5,vI 0)]) (aN)<|Sj (X:=Int) (fun v=>(sl 22 [(5,vI v)] [])) (fun v=>Mt v=some r) ?_ ?_
 ·refine Gg [.a] (u [] [(6,vI 0)]) (aN)<|hB ?_
  obtain⟨d1,y0,h⟩:=bS h
  refine Gi (fun(v:Int×Int)=>(u [] [(5,vI v.1),(6,vI v.2)])) y0 (wT) ?_
  rintro⟨k0,j0⟩ x0 i0 z0
  replace i0:Kr a0 a1 k0 j0=some x0:=i0
  unfold Kr at i0
  refine hS<|Gg (nA 4) (u [] [(10,vB (decide (j0<(a0.length:Int))))]) (aN)<|iC i0 (fun i0=>?_) (fun i0=>?_)
  ·refine hK<|Tn<|Gj (X:=Int) (fun v=>(u [10] [(5,vI v)])) (fun v=>Hs j0 v=some x0) ?_ ?_
   ·refine hB ?_
    obtain⟨p0,t0,i0⟩:=bS i0
    refine Gg [.a,.a,.a,(.v (vI p0)),.a,.a] (u [10] [(18,vB (p0==a1))]) (aC (AI t0)<|aC (DI t0 (Fq .i64) 0 1 false (vI p0))<|aC (Eq.refl (vI p0))<|aN)<|iC i0 (fun i0=>?_) (fun i0=>?_)
    ·refine Ge (nA 3) (u [] [(5,vI (Ab (k0+1))),(19,vI k0),(20,vI (Ab (k0+1)))]) (aN)<|qN<|Tn ⟨(Ab (k0+1)),i0,wT⟩
    refine hK<|qN<|Tn ⟨k0,i0,wT⟩
   rintro m0 n0
   replace n0:Hs j0 m0=some x0:=n0
   unfold Hs at n0
   refine Ge (nA 3) (u [] [(6,vI (Ab (j0+1))),(11,vI j0),(12,vI (Ab (j0+1)))]) (aN)<|Tn ⟨(m0,(Ab (j0+1))),(sI n0).symm,wT⟩
  refine hE<|Te ?_
  obtain rfl:=z0 _ (sI i0).symm
  refine Te<|qX<|Tn ⟨k0,h,wT⟩
 rintro o0 q0
 replace q0:Mt o0=some r:=q0
 unfold Mt at q0
 exact Rg [.a,.a] (sl 22 [(4,vI o0)] []) (aN)<|hR<|bQ _ (congrArg vI (sI q0))
def OO:Option (Bool):=
 some true
def ML (a0:A3 (Int)) (i_t3_3:Int):Option ((Int)⊕(Unit⊕Unit)):=
 (if(decide (i_t3_3<3))=true then
  (idx a0.l i_t3_3).bind fun e6=>
  (gd ((decide (e6<0))==false) (idx a0.l i_t3_3)).bind fun e7=>
  (some (if(decide (e6<0))=true then true else decide (1000000<e7))).bind fun b8=>
  (if b8=true then
   some (.inr (.inr ()))
  else
   some (.inl (Ab (i_t3_3+1))))
 else
  some (.inr (.inl ())))
def WA (a0:A3 (Int)):Option (Bool):=
 (iter (fun(v:Int)=>ML a0 v) FU (0:Int)).bind (Sum.elim (fun o0=>OO) (fun o1=>some false))
def lG (a0:A3 (Int)) (r:Bool):Prop:=Af Tryz.prog I0 101 [vA (UM (eI .i64)) a0] (· =vB r)
theorem jz {a0:A3 (Int)} {r:Bool} (h:WA a0=some r):lG a0 r:=by
 refine Af.bo Ae Tryz.func101 rfl Tryz.ntmps101 [.tmp 2] fun _ _ _ _=>?_
 unfold WA at h
 refine Rg [.a,.a] (sl 18 [(1,vP [1] (0))] [bx [1] (UM (eI .i64) a0)]) (aN)<|Sj (X:=Unit) (fun v=>(sl 18 [] [])) (fun v=>OO=some r) ?_ ?_
 ·refine Gg [.a] (u [] [(3,vI 0)]) (aN)<|hB ?_
  obtain⟨x0,p0,h⟩:=bS h
  refine Gi (fun(v:Int)=>(u [] [(3,vI v)])) p0 (wT) ?_
  rintro j0 t0 i0 m0
  replace i0:ML a0 j0=some t0:=i0
  unfold ML at i0
  refine hS<|Gg [.a,.a] (u [] [(5,vB (decide (j0<3)))]) (aN)<|iC i0 (fun i0=>?_) (fun i0=>?_)
  ·refine hK<|Tn<|hS<|hB ?_
   obtain⟨e6,n0,e7,o0,b8,q0,i0⟩:=I8 i0
   refine Gg [.a,.a,(.v (vI e6)),.a,.a,.a,.a,(.v (vI e7)),.a,(.v (vB b8))] (u [5] [(17,vB b8)]) (aC (AI n0)<|aC (kx n0 (Fq .i64) (UM (eI .i64) a0) 0 3 0 1 false (vI e6))<|aC (Eq.refl (vI e6))<|aC (fun hg:((decide (e6<0))==false)=true=>aC (gi ((decide (e6<0))==false))<|aC (KW o0 hg).1<|aN)<|aC (fun hg:((decide (e6<0))==false)=true=>aC (gi ((decide (e6<0))==false))<|aC (kx (G8 o0 hg) (Fq .i64) (UM (eI .i64) a0) 0 3 0 1 false (vI e7))<|aC (Eq.refl (vI e7))<|aN)<|aG ((decide (e6<0))==false)<|aF (decide (e6<0))<|aB q0<|aN)<|iC i0 (fun i0=>?_) (fun i0=>?_)
   ·refine Rg [.a] (sl 18 [(2,vB false)] []) (aN)<|hR<|qR<|Tr ?_
    obtain rfl:=m0 _ (sI i0).symm
    replace h:=Cy h
    exact Tr<|qR<|Tr<|bQ _ (kB h)
   refine hK<|qN<|Tn<|Ge (nA 3) (u [] [(3,vI (Ab (j0+1))),(6,vI j0),(7,vI (Ab (j0+1)))]) (aN)<|Tn ⟨(Ab (j0+1)),(sI i0).symm,wT⟩
  refine hE<|Te ?_
  obtain rfl:=m0 _ (sI i0).symm
  replace h:=CZ h
  refine Te<|qX<|Tn ⟨(),h,wT⟩
 rintro _ k0
 replace k0:OO=some r:=k0
 unfold OO at k0
 exact Rg [.a] (sl 18 [(2,vB true)] []) (aN)<|hR<|bQ _ (kB k0)
def SR (a0:Al):Option (Al):=
 some ({{{a0 with Attack:=(-1:Int)}with Blocked:=false}with Blocks:=(0:Int)})
def fp (a0:Al) (r:Al):Prop:=Af Tryz.prog I0 102 [vA Ad a0] (· =vA Ad r)
theorem cg {a0:Al} {r:Al} (h:SR a0=some r):fp a0 r:=by
 refine Af.bo Ae Tryz.func102 rfl Tryz.ntmps102 [.cell 2 63] fun _ _ _ _=>?_
 unfold SR at h
 exact Rg [.a,.a] (sl 7 [(1,vP [1] (0)),(2,vP [2] (0))] [bx [2] [Aa 0,Aa 0,Aa 0,Aa 0,Aa 0,.bool false,.bool false,.bool false,.bool false,Aa 0,Aa (((⟨0,0,0⟩:A3 (Int))).x0),Aa (((⟨0,0,0⟩:A3 (Int))).x1),Aa (((⟨0,0,0⟩:A3 (Int))).x2),Aa 0,Aa 0,Aa 0,.bool false,Aa 0,Aa 0],bx [1] (Ad a0)]) (aN)<|Gg [.a,.a] (uo [] [] [.k 0,.e (bx [1] (Ad ({a0 with Attack:=(-1:Int)})))]) (aN)<|Gg [.a,.a] (uo [] [] [.k 0,.e (bx [1] (Ad ({{a0 with Attack:=(-1:Int)}with Blocked:=false})))]) (aN)<|Gg [.a,.a] (uo [] [] [.k 0,.e (bx [1] (Ad ({{{a0 with Attack:=(-1:Int)}with Blocked:=false}with Blocks:=(0:Int)})))]) (aN)<|Gg [.a,.a] (uo [1] [] [.e (bx [2] (Ad ({{{a0 with Attack:=(-1:Int)}with Blocked:=false}with Blocks:=(0:Int)})))]) (aN)<|hR<|bE (vA Ad ({{{a0 with Attack:=(-1:Int)}with Blocked:=false}with Blocks:=(0:Int)})) (.agg (Ad ({{{a0 with Attack:=(-1:Int)}with Blocked:=false}with Blocks:=(0:Int)}))) (congrArg (vA Ad) (sI h))
def Q8 (a0:Int):Option (Bool):=
 (some (if(decide (97≤a0))=true then decide (a0≤122)else false)).bind fun b1=>
 some b1
def jA (a0:Int) (r:Bool):Prop:=Af Tryz.prog I0 232 [.c (.int .u8 a0)] (· =vB r)
theorem WB {a0:Int} {r:Bool} (h:Q8 a0=some r):jA a0 r:=by
 refine Af.bo Ae Tryz.func232 rfl Tryz.ntmps232 [.tmp 2] fun _ _ _ _=>?_
 unfold Q8 at h
 refine Gg [.a] (u [] []) (aN) ?_
 obtain⟨b1,i0,h⟩:=bS h
 exact Rg [.a,.a,.a,.a,.a,(.v (vB b1)),.a] (sl 9 [(2,vB b1)] []) (aG ((decide (97≤a0))==true)<|aT (decide (97≤a0))<|aB i0<|aN)<|hR<|bQ _ (kB h)
end Go.PL
